import Derived.Test.YthiiodgpdoljoaaKf0
import Derived.Deep.Slices
import Derived.Deep.Fields
import Derived.ChangeSame
import Derived.WideShapes
import Derived.Test.YthiiodgpdoljoaaProg
import Derived.Below
import Derived.Deep.Draws
import Derived.Deep.AppendLies
import Derived.Maps.AppendAt
import Derived.OwnWalk
import Derived.Laws.BytesArg
import Derived.Laws.MakeOwn
import Derived.Laws.OwnMore
import Derived.Deep.OwnRows
import Derived.Tactics
import Derived.Lib.ConvBytes
import Derived.Laws.Slices
import Derived.WalkKit
import Derived.KernelRfl
import Derived.RowKit3
import Derived.Deep.LoopGhost
import Derived.Deep.QuietTactic
import Derived.BigQuiet
import Derived.WideLaws
import Derived.Deep.DeepCutAuto
import Derived.Deep.CutBlock
import Derived.Deep.RegionHeld3
import Derived.Laws.Rows
import Derived.Lib.AppendStr
import Derived.ArgAppend
import Derived.Laws.IdiomCopy
import Derived.OrdersHeld
import Derived.Laws.BitsLemmas
import Derived.RowKit
-- Words and walks that the kit's print has laid for this seat, cut down, and our own texts, merged.
/- Arguments as the law's caller lays them, read as the print's kinds: whole numbers, bools, strings, structs, slices, nested. -/
namespace Go.Proofs.Ythiiodgpdoljoaa.Rd
open Go.RowKit Go.ChangeShapes Go.WideShapes Go.Deep Go.Proofs.YthiiodgpdoljoaaW.PrintWords
set_option linter.unusedVariables false
/-- Whatever reads as data of type t is of kind d, and wf holds of it. -/
def Rd {α : Type} (P : Program) (t : TypeId) (d : Kd α) (wf : α → Prop) : Prop :=
  ∀ (H : Type) (enc : TypeId × Value → H) (w : World) (base : Nat) (spare : Nat → Bool) (held : Bool) (fuel : Nat) (cs : List Value) (x : DataW H × List MemPlace),
    DataW.trod enc P w base spare held fuel t cs = some x → ∃ a, d.K w a cs ∧ wf a
theorem Rd.int {P : Program} {t : TypeId} {k : IntKind} (ht : P.underlying t = some (.int k)) : Rd P t (Kd.int k) (fun n => (Lit.int k n).wf = true) := by
  intro H enc w base spare held fuel cs x h
  obtain ⟨n, rfl, _, hw⟩ := DataW.trod_int ht h
  exact ⟨n, rfl, hw⟩
theorem Rd.bool {P : Program} {t : TypeId} (ht : P.underlying t = some .bool) : Rd P t Kd.bool (fun _ => True) := by
  intro H enc w base spare held fuel cs x h
  obtain ⟨n, rfl, _⟩ := DataW.trod_bool ht h
  exact ⟨n, rfl, trivial⟩
theorem Rd.string {P : Program} {t : TypeId} (ht : P.underlying t = some .string) : Rd P t Kd.string (fun s => s.size ≤ maxLen) := by
  intro H enc w base spare held fuel cs x h
  obtain ⟨n, rfl, _, hs⟩ := DataW.trod_string ht h
  exact ⟨n, rfl, hs⟩
/-- The fields from one offset on. -/
def Sq {α : Type} (P : Program) (fs : List Field) (o : Nat) (d : Kd α) (wf : α → Prop) : Prop :=
  ∀ (H : Type) (enc : TypeId × Value → H) (w : World) (base : Nat) (spare : Nat → Bool) (held : Bool) (cs : List Value), cs.length = o + d.sz →
    (∀ f ∈ fs, ∃ (n : Nat) (x : DataW H × List MemPlace), DataW.trod enc P w base spare held n f.type ((cs.drop f.offset).take (P.cellsOf f.type)) = some x) → ∃ a, d.K w a (cs.drop o) ∧ wf a
theorem Sq.one {α : Type} {P : Program} {f : Field} {o : Nat} {d : Kd α} {wf : α → Prop} (ho : f.offset = o) (hc : P.cellsOf f.type = d.sz) (h : Rd P f.type d wf) : Sq P [f] o d wf := by
  intro H enc w base spare held cs hl hf
  obtain ⟨n, x, hx⟩ := hf f (by simp)
  rw [ho, hc, List.take_of_length_le (by rw [List.length_drop]; omega)] at hx
  exact h H enc w base spare held n _ x hx
theorem Sq.cons {α β : Type} {P : Program} {f : Field} {fs : List Field} {o : Nat} {d : Kd α} {d' : Kd β} {wf : α → Prop} {wf' : β → Prop} (ho : f.offset = o) (hc : P.cellsOf f.type = d.sz) (h : Rd P f.type d wf) (hs : Sq P fs (o + d.sz) d' wf') :
    Sq P (f :: fs) o (Kd.pair d d') (fun p => wf p.1 ∧ wf' p.2) := by
  intro H enc w base spare held cs hl hf
  have hsz : (Kd.pair d d').sz = d.sz + d'.sz := rfl
  rw [hsz] at hl
  obtain ⟨n, x, hx⟩ := hf f (by simp)
  rw [ho, hc] at hx
  obtain ⟨a, ha, wa⟩ := h H enc w base spare held n _ x hx
  obtain ⟨b, hb, wb⟩ := hs H enc w base spare held cs (by omega) (fun g hg => hf g (by simp [hg]))
  refine ⟨(a, b), ⟨_, _, ?_, ha, hb⟩, wa, wb⟩
  rw [← List.drop_drop]
  exact (List.take_append_drop d.sz (cs.drop o)).symm
theorem Rd.struct {α β : Type} {P : Program} {t : TypeId} {fs : Array Field} {d : Kd α} {wf : α → Prop} (ht : P.underlying t = some (.struct fs)) (hc : P.cellsOf t = d.sz) (hs : Sq P fs.toList 0 d wf) (f : β → α) (g : α → β) (hfg : ∀ a, f (g a) = a) :
    Rd P t (Kd.iso d f) (fun b => wf (f b)) := by
  intro H enc w base spare held fuel cs x h
  obtain ⟨xs, n, _, _, hlen, hxl, hf⟩ := DataW.trod_struct ht h
  obtain ⟨a, ha, wa⟩ := hs H enc w base spare held cs (by rw [hlen, hc]; omega) (fun fd hfd => by
    obtain ⟨j, hj, rfl⟩ := List.getElem_of_mem hfd
    have hj' : j < fs.size := by simpa using hj
    have h1 := hf j fs[j] (Array.getElem?_eq_getElem hj')
    rw [List.getElem?_eq_getElem (show j < xs.length by omega)] at h1
    exact ⟨n, _, by simpa using h1⟩)
  refine ⟨g a, ?_, by show wf (f (g a)); rw [hfg]; exact wa⟩
  show d.K w (f (g a)) cs
  rw [hfg]
  simpa using ha
theorem Rd.slice {α : Type} [Inhabited α] {P : Program} {t e : TypeId} {d : Kd α} {wf : α → Prop} (ht : P.underlying t = some (.slice e)) (hc : P.cellsOf e = d.sz) (he : Rd P e d wf) : Rd P t (Kd.slice e d) (fun l => l.length ≤ maxLen ∧ ∀ a ∈ l, wf a) := by
  intro H enc w base spare held fuel cs x h
  rcases open_slice ht h with ⟨rfl, _⟩ | ⟨a, len, cap, m, n, D, Pl, rfl, hb, hl, hm, hmm, _, hi⟩
  · exact ⟨[], ⟨none, 0, rfl, by simp, by simp, by simp, fun h0 => by simp at h0⟩, by simp, by simp⟩
  · have hle : len ≤ m := by rw [hmm]; split <;> omega
    obtain ⟨f, hf⟩ := choose_lt (α := α) (n := len) (p := fun i v => (∃ c : List Value, c.length = d.sz ∧ d.K w v c ∧ ∀ j u, c[j]? = some u → w.cell? (a.add (i * d.sz + j)) = some u) ∧ wf v) (fun i hil => by
      obtain ⟨cs', hcells, htr⟩ := hi i (by omega)
      obtain ⟨v, hv, hw⟩ := he H enc w base spare held n cs' _ htr
      rw [hc] at hcells
      obtain ⟨_, hcl, hat⟩ := World.cells?_some hcells
      refine ⟨v, ⟨cs', hcl, hv, fun j u hu => ?_⟩, hw⟩
      have hj : j < d.sz := by have := (List.getElem?_eq_some_iff.1 hu).1; omega
      rw [← Go.Deep.add_add, hat j hj]
      exact hu)
    refine ⟨(List.range len).map f, ⟨some a, cap, by simp, by simpa using hl, by simp, by simp only [List.length_map, List.length_range]; unfold maxLen at hm; omega, fun _ => ⟨a, rfl, fun j p hj => ?_⟩⟩, by simp; omega, fun v hv => ?_⟩
    · have hjl : j < len := by have := (List.getElem?_eq_some_iff.1 hj).1; simpa using this
      have : p = f j := by
        rw [List.getElem?_map, List.getElem?_range hjl] at hj
        simpa using hj.symm
      subst this
      exact (hf j hjl).1
    · obtain ⟨j, hj, rfl⟩ := List.mem_map.1 hv
      exact (hf j (List.mem_range.1 hj)).2
/-- An argument that is a struct. -/
theorem Rd.argStruct {α : Type} {P : Program} {t : TypeId} {fs : Array Field} {d : Kd α} {wf : α → Prop} (hr : Rd P t d wf) (ht : P.underlying t = some (.struct fs)) {H : Type} {enc : TypeId × Value → H} {w : World} {r : Reach} {base b0 : Nat} {spare : Nat → Bool} {held : Bool} {v : Value} {x : DataW H} {p : List MemPlace}
    (hv : Value.okWide P w r b0 t v) (h : DataW.Trod enc P w base spare held t v x p) : ∃ (cs : List Value) (a : α), v = .agg cs.toArray ∧ d.K w a cs ∧ wf a := by
  obtain ⟨cs, rfl, hsz⟩ := okWide_struct ht hv
  obtain ⟨fuel, hf⟩ := h
  obtain ⟨a, ha, wa⟩ := hr H enc w base spare held fuel _ _ hf
  exact ⟨cs.toList, a, by simp, by simpa [Value.cells] using ha, wa⟩
/-- An argument that is a slice. -/
theorem Rd.argSlice {α : Type} [Inhabited α] {P : Program} {t e : TypeId} {d : Kd α} {wf : α → Prop} (hr : Rd P t (Kd.slice e d) (fun l => l.length ≤ maxLen ∧ ∀ a ∈ l, wf a)) (ht : P.underlying t = some (.slice e)) {H : Type} {enc : TypeId × Value → H} {w : World} {r : Reach} {base b0 : Nat} {spare : Nat → Bool} {held : Bool} {v : Value} {x : DataW H} {p : List MemPlace}
    (hv : Value.okWide P w r b0 t v) (h : DataW.Trod enc P w base spare held t v x p) : ∃ (A : Option Addr) (l : List α) (c : Nat), v = .slice A l.length c ∧ l.length ≤ c ∧ d.C w A l.length l ∧ l.length ≤ maxLen ∧ ∀ a ∈ l, wf a := by
  obtain ⟨a0, len, cap, rfl⟩ := okWide_slice ht hv
  obtain ⟨fuel, hf⟩ := h
  obtain ⟨l, ⟨A, c, hcs, hl, hC⟩, hw⟩ := hr H enc w base spare held fuel _ _ hf
  simp [Value.cells] at hcs
  obtain ⟨rfl, rfl, rfl⟩ := hcs
  exact ⟨a0, l, cap, rfl, hl, hC, hw.1, hw.2⟩
end Go.Proofs.Ythiiodgpdoljoaa.Rd
namespace Go.Proofs.Ythiiodgpdoljoaa.PLc
open Go.RowKit Go.Proofs.YthiiodgpdoljoaaW.PrintWords Go.Proofs.YthiiodgpdoljoaaW.PrintLast Go.Proofs.YthiiodgpdoljoaaW.PrintMore
attribute [local go_sem] max2_int min2_int max_two min_two max_three min_three max_four min_four   -- for this text's walks alone
set_option linter.unusedVariables false
set_option linter.unusedSimpArgs false
def errW : Option Int → Value
 | none => .nilIface
 | some c => .iface 0 (.int .i64 c)
theorem errW_none : errW none = .nilIface := rfl
theorem errW_some (c : Int) : errW (some c) = .iface 0 (.int .i64 c) := rfl
theorem info3 : (Try.prog.info? 3).map (fun i => (i.zero, i.size, i.bytes)) = some (some (.int .i64 0), 1, 8) := by kernel_rfl
theorem info47 : (Try.prog.info? 47).map (fun i => (i.zero, i.size, i.bytes)) = some (some (.agg #[(.int .i64 0), (.int .i64 0), (.int .i64 0), (.int .u64 0), (.int .u64 0)]), 5, 40) := by kernel_rfl
theorem info48 : (Try.prog.info? 48).map (fun i => (i.zero, i.size, i.bytes)) = some (some (.slice none 0 0), 1, 24) := by kernel_rfl
theorem info50 : (Try.prog.info? 50).map (fun i => (i.zero, i.size, i.bytes)) = some (some (.slice none 0 0), 1, 24) := by kernel_rfl
theorem info52 : (Try.prog.info? 52).map (fun i => (i.zero, i.size, i.bytes)) = some (some (.agg #[(.int .i64 0), (.int .i64 0), (.int .i64 0), (.int .u64 0), (.int .u64 0)]), 5, 40) := by kernel_rfl
theorem info76 : (Try.prog.info? 76).map (fun i => (i.zero, i.size, i.bytes)) = some (some (.agg #[(.int .i64 0), (.int .i64 0), (.int .i64 0), (.int .u64 0), (.int .u64 0)]), 5, 40) := by kernel_rfl
theorem info105 : (Try.prog.info? 105).map (fun i => (i.zero, i.size, i.bytes)) = some (some (.agg #[(.int .i64 0), (.int .i64 0), (.int .i64 0), (.int .i64 0), (.int .i64 0)]), 5, 40) := by kernel_rfl
theorem info106 : (Try.prog.info? 106).map (fun i => (i.zero, i.size, i.bytes)) = some (some (.agg #[(.int .i64 0), (.int .i64 0), (.int .i64 0), (.int .i64 0), (.int .i64 0)]), 5, 40) := by kernel_rfl
theorem info118 : (Try.prog.info? 118).map (fun i => (i.zero, i.size, i.bytes)) = some (some (.agg #[(.int .i64 0), (.int .i64 0), (.int .i64 0), (.int .u64 0), (.int .u64 0)]), 5, 40) := by kernel_rfl
-- the values' own types
/-! #### struct type 105 -/
structure S105 where
 f0 : Int
 f1 : Int
 f2 : Int
 f3 : Int
 f4 : Int
def z105 : S105 := ⟨(0 : Int), (0 : Int), (0 : Int), (0 : Int), (0 : Int)⟩
def k105 : Kd S105 := Kd.iso (Kd.pair (Kd.int .i64) (Kd.pair (Kd.int .i64) (Kd.pair (Kd.int .i64) (Kd.pair (Kd.int .i64) (Kd.int .i64))))) (fun x : S105 => (x.f0, x.f1, x.f2, x.f3, x.f4))
theorem k105_open {w : World} {x : S105} {cs : List Value} (h : k105.K w x cs) : cs = [.int .i64 x.f0, .int .i64 x.f1, .int .i64 x.f2, .int .i64 x.f3, .int .i64 x.f4] := by
 obtain ⟨_, _, rfl, rfl, ⟨_, _, rfl, rfl, ⟨_, _, rfl, rfl, ⟨_, _, rfl, rfl, rfl⟩⟩⟩⟩ := h
 exact rfl
theorem k105_openM {w : World} {base : Nat} {ok : Nat → Prop} {x : S105} {cs : List Value} (h : k105.M w base ok x cs) : cs = [.int .i64 x.f0, .int .i64 x.f1, .int .i64 x.f2, .int .i64 x.f3, .int .i64 x.f4] := by
 obtain ⟨_, _, rfl, rfl, ⟨_, _, rfl, rfl, ⟨_, _, rfl, rfl, ⟨_, _, rfl, rfl, rfl⟩⟩⟩⟩ := h
 exact rfl
theorem k105_mk (w : World) (x : S105)  : k105.K w x [.int .i64 x.f0, .int .i64 x.f1, .int .i64 x.f2, .int .i64 x.f3, .int .i64 x.f4] := ⟨[.int .i64 x.f0], [.int .i64 x.f1, .int .i64 x.f2, .int .i64 x.f3, .int .i64 x.f4], rfl, rfl, ⟨[.int .i64 x.f1], [.int .i64 x.f2, .int .i64 x.f3, .int .i64 x.f4], rfl, rfl, ⟨[.int .i64 x.f2], [.int .i64 x.f3, .int .i64 x.f4], rfl, rfl, ⟨[.int .i64 x.f3], [.int .i64 x.f4], rfl, rfl, rfl⟩⟩⟩⟩
theorem k105_mkM (w : World) (base : Nat) (ok : Nat → Prop) (x : S105)  : k105.M w base ok x [.int .i64 x.f0, .int .i64 x.f1, .int .i64 x.f2, .int .i64 x.f3, .int .i64 x.f4] := ⟨[.int .i64 x.f0], [.int .i64 x.f1, .int .i64 x.f2, .int .i64 x.f3, .int .i64 x.f4], rfl, rfl, ⟨[.int .i64 x.f1], [.int .i64 x.f2, .int .i64 x.f3, .int .i64 x.f4], rfl, rfl, ⟨[.int .i64 x.f2], [.int .i64 x.f3, .int .i64 x.f4], rfl, rfl, ⟨[.int .i64 x.f3], [.int .i64 x.f4], rfl, rfl, rfl⟩⟩⟩⟩
theorem k105_mkF (W : World) (ok : Nat → Prop) (x : S105) : Kd.FK k105 W ok x [.int .i64 x.f0, .int .i64 x.f1, .int .i64 x.f2, .int .i64 x.f3, .int .i64 x.f4] := fun W2 _ => k105_mk W2 x
def rd_T105 (xs : List S105) (i : Int) : S105 := xs.getD i.toNat z105
theorem at_T105 {w : World} {A : Option Addr} {n : Nat} {xs : List S105} (h : Kd.C k105 w A n xs) (i : Int) (h0 : 0 ≤ i) (h1 : i < n) : ∃ ad , A = some ad ∧ w.cell? (ad.add (i.toNat * 5)) = some (.int .i64 (rd_T105 xs i).f0) ∧ w.cell? ⟨(ad.add (i.toNat * 5)).block, (ad.add (i.toNat * 5)).off + 1, none⟩ = some (.int .i64 (rd_T105 xs i).f1) ∧ w.cell? ⟨(ad.add (i.toNat * 5)).block, (ad.add (i.toNat * 5)).off + 2, none⟩ = some (.int .i64 (rd_T105 xs i).f2) ∧ w.cell? ⟨(ad.add (i.toNat * 5)).block, (ad.add (i.toNat * 5)).off + 3, none⟩ = some (.int .i64 (rd_T105 xs i).f3) ∧ w.cell? ⟨(ad.add (i.toNat * 5)).block, (ad.add (i.toNat * 5)).off + 4, none⟩ = some (.int .i64 (rd_T105 xs i).f4) := by
 obtain ⟨ad, c, e, _, hK, hc0⟩ := Kd.C_get h z105 i h0 h1; have hc : ∀ j u, c[j]? = some u → w.cell? (ad.add (i.toNat * 5 + j)) = some u := hc0; obtain rfl := k105_open hK
 exact ⟨ad, e, hc 0 _ rfl, by rw [← add_field _ _ 1 (by omega)]; exact hc 1 _ rfl, by rw [← add_field _ _ 2 (by omega)]; exact hc 2 _ rfl, by rw [← add_field _ _ 3 (by omega)]; exact hc 3 _ rfl, by rw [← add_field _ _ 4 (by omega)]; exact hc 4 _ rfl⟩
/-! #### struct type 74 -/
structure S74 where
 f0 : Int
 f1 : Int
def z74 : S74 := ⟨(0 : Int), (0 : Int)⟩
def k74 : Kd S74 := Kd.iso (Kd.pair (Kd.int .u64) (Kd.int .u64)) (fun x : S74 => (x.f0, x.f1))
theorem k74_open {w : World} {x : S74} {cs : List Value} (h : k74.K w x cs) : cs = [.int .u64 x.f0, .int .u64 x.f1] := by
 obtain ⟨_, _, rfl, rfl, rfl⟩ := h
 exact rfl
theorem k74_openM {w : World} {base : Nat} {ok : Nat → Prop} {x : S74} {cs : List Value} (h : k74.M w base ok x cs) : cs = [.int .u64 x.f0, .int .u64 x.f1] := by
 obtain ⟨_, _, rfl, rfl, rfl⟩ := h
 exact rfl
theorem k74_mk (w : World) (x : S74)  : k74.K w x [.int .u64 x.f0, .int .u64 x.f1] := ⟨[.int .u64 x.f0], [.int .u64 x.f1], rfl, rfl, rfl⟩
theorem k74_mkM (w : World) (base : Nat) (ok : Nat → Prop) (x : S74)  : k74.M w base ok x [.int .u64 x.f0, .int .u64 x.f1] := ⟨[.int .u64 x.f0], [.int .u64 x.f1], rfl, rfl, rfl⟩
theorem k74_mkF (W : World) (ok : Nat → Prop) (x : S74) : Kd.FK k74 W ok x [.int .u64 x.f0, .int .u64 x.f1] := fun W2 _ => k74_mk W2 x
def rd_T74 (xs : List S74) (i : Int) : S74 := xs.getD i.toNat z74
theorem at_T74 {w : World} {A : Option Addr} {n : Nat} {xs : List S74} (h : Kd.C k74 w A n xs) (i : Int) (h0 : 0 ≤ i) (h1 : i < n) : ∃ ad , A = some ad ∧ w.cell? (ad.add (i.toNat * 2)) = some (.int .u64 (rd_T74 xs i).f0) ∧ w.cell? ⟨(ad.add (i.toNat * 2)).block, (ad.add (i.toNat * 2)).off + 1, none⟩ = some (.int .u64 (rd_T74 xs i).f1) := by
 obtain ⟨ad, c, e, _, hK, hc0⟩ := Kd.C_get h z74 i h0 h1; have hc : ∀ j u, c[j]? = some u → w.cell? (ad.add (i.toNat * 2 + j)) = some u := hc0; obtain rfl := k74_open hK
 exact ⟨ad, e, hc 0 _ rfl, by rw [← add_field _ _ 1 (by omega)]; exact hc 1 _ rfl⟩
/-! #### struct type 76 -/
structure S76 where
 f0 : Int
 f1 : Int
 f2 : Int
 f3 : S74
def z76 : S76 := ⟨(0 : Int), (0 : Int), (0 : Int), z74⟩
def k76 : Kd S76 := Kd.iso (Kd.pair (Kd.int .i64) (Kd.pair (Kd.int .i64) (Kd.pair (Kd.int .i64) k74))) (fun x : S76 => (x.f0, x.f1, x.f2, x.f3))
theorem k76_open {w : World} {x : S76} {cs : List Value} (h : k76.K w x cs) : cs = [.int .i64 x.f0, .int .i64 x.f1, .int .i64 x.f2, .int .u64 x.f3.f0, .int .u64 x.f3.f1] := by
 obtain ⟨_, _, rfl, rfl, ⟨_, _, rfl, rfl, ⟨_, _, rfl, rfl, s3⟩⟩⟩ := h
 obtain rfl := k74_open s3
 exact rfl
theorem k76_openM {w : World} {base : Nat} {ok : Nat → Prop} {x : S76} {cs : List Value} (h : k76.M w base ok x cs) : cs = [.int .i64 x.f0, .int .i64 x.f1, .int .i64 x.f2, .int .u64 x.f3.f0, .int .u64 x.f3.f1] := by
 obtain ⟨_, _, rfl, rfl, ⟨_, _, rfl, rfl, ⟨_, _, rfl, rfl, s3⟩⟩⟩ := h
 obtain rfl := k74_openM s3
 exact rfl
theorem k76_mk (w : World) (x : S76)  : k76.K w x [.int .i64 x.f0, .int .i64 x.f1, .int .i64 x.f2, .int .u64 x.f3.f0, .int .u64 x.f3.f1] := ⟨[.int .i64 x.f0], [.int .i64 x.f1, .int .i64 x.f2, .int .u64 x.f3.f0, .int .u64 x.f3.f1], rfl, rfl, ⟨[.int .i64 x.f1], [.int .i64 x.f2, .int .u64 x.f3.f0, .int .u64 x.f3.f1], rfl, rfl, ⟨[.int .i64 x.f2], [.int .u64 x.f3.f0, .int .u64 x.f3.f1], rfl, rfl, (k74_mk w x.f3 )⟩⟩⟩
theorem k76_mkM (w : World) (base : Nat) (ok : Nat → Prop) (x : S76)  : k76.M w base ok x [.int .i64 x.f0, .int .i64 x.f1, .int .i64 x.f2, .int .u64 x.f3.f0, .int .u64 x.f3.f1] := ⟨[.int .i64 x.f0], [.int .i64 x.f1, .int .i64 x.f2, .int .u64 x.f3.f0, .int .u64 x.f3.f1], rfl, rfl, ⟨[.int .i64 x.f1], [.int .i64 x.f2, .int .u64 x.f3.f0, .int .u64 x.f3.f1], rfl, rfl, ⟨[.int .i64 x.f2], [.int .u64 x.f3.f0, .int .u64 x.f3.f1], rfl, rfl, (k74_mkM w base ok x.f3 )⟩⟩⟩
theorem k76_mkF (W : World) (ok : Nat → Prop) (x : S76) : Kd.FK k76 W ok x [.int .i64 x.f0, .int .i64 x.f1, .int .i64 x.f2, .int .u64 x.f3.f0, .int .u64 x.f3.f1] := fun W2 _ => k76_mk W2 x
def rd_T76 (xs : List S76) (i : Int) : S76 := xs.getD i.toNat z76
theorem at_T76 {w : World} {A : Option Addr} {n : Nat} {xs : List S76} (h : Kd.C k76 w A n xs) (i : Int) (h0 : 0 ≤ i) (h1 : i < n) : ∃ ad , A = some ad ∧ w.cell? (ad.add (i.toNat * 5)) = some (.int .i64 (rd_T76 xs i).f0) ∧ w.cell? ⟨(ad.add (i.toNat * 5)).block, (ad.add (i.toNat * 5)).off + 1, none⟩ = some (.int .i64 (rd_T76 xs i).f1) ∧ w.cell? ⟨(ad.add (i.toNat * 5)).block, (ad.add (i.toNat * 5)).off + 2, none⟩ = some (.int .i64 (rd_T76 xs i).f2) ∧ w.cell? ⟨(ad.add (i.toNat * 5)).block, (ad.add (i.toNat * 5)).off + 3, none⟩ = some (.int .u64 (rd_T76 xs i).f3.f0) ∧ w.cell? ⟨(ad.add (i.toNat * 5)).block, (ad.add (i.toNat * 5)).off + 4, none⟩ = some (.int .u64 (rd_T76 xs i).f3.f1) := by
 obtain ⟨ad, c, e, _, hK, hc0⟩ := Kd.C_get h z76 i h0 h1; have hc : ∀ j u, c[j]? = some u → w.cell? (ad.add (i.toNat * 5 + j)) = some u := hc0; obtain rfl := k76_open hK
 exact ⟨ad, e, hc 0 _ rfl, by rw [← add_field _ _ 1 (by omega)]; exact hc 1 _ rfl, by rw [← add_field _ _ 2 (by omega)]; exact hc 2 _ rfl, by rw [← add_field _ _ 3 (by omega)]; exact hc 3 _ rfl, by rw [← add_field _ _ 4 (by omega)]; exact hc 4 _ rfl⟩
/-! #### struct type 118 -/
structure S118 where
 f0 : Int
 f1 : Int
 f2 : Int
 f3 : S74
def z118 : S118 := ⟨(0 : Int), (0 : Int), (0 : Int), z74⟩
def k118 : Kd S118 := Kd.iso (Kd.pair (Kd.int .i64) (Kd.pair (Kd.int .i64) (Kd.pair (Kd.int .i64) k74))) (fun x : S118 => (x.f0, x.f1, x.f2, x.f3))
theorem k118_open {w : World} {x : S118} {cs : List Value} (h : k118.K w x cs) : cs = [.int .i64 x.f0, .int .i64 x.f1, .int .i64 x.f2, .int .u64 x.f3.f0, .int .u64 x.f3.f1] := by
 obtain ⟨_, _, rfl, rfl, ⟨_, _, rfl, rfl, ⟨_, _, rfl, rfl, s3⟩⟩⟩ := h
 obtain rfl := k74_open s3
 exact rfl
theorem k118_openM {w : World} {base : Nat} {ok : Nat → Prop} {x : S118} {cs : List Value} (h : k118.M w base ok x cs) : cs = [.int .i64 x.f0, .int .i64 x.f1, .int .i64 x.f2, .int .u64 x.f3.f0, .int .u64 x.f3.f1] := by
 obtain ⟨_, _, rfl, rfl, ⟨_, _, rfl, rfl, ⟨_, _, rfl, rfl, s3⟩⟩⟩ := h
 obtain rfl := k74_openM s3
 exact rfl
theorem k118_mk (w : World) (x : S118)  : k118.K w x [.int .i64 x.f0, .int .i64 x.f1, .int .i64 x.f2, .int .u64 x.f3.f0, .int .u64 x.f3.f1] := ⟨[.int .i64 x.f0], [.int .i64 x.f1, .int .i64 x.f2, .int .u64 x.f3.f0, .int .u64 x.f3.f1], rfl, rfl, ⟨[.int .i64 x.f1], [.int .i64 x.f2, .int .u64 x.f3.f0, .int .u64 x.f3.f1], rfl, rfl, ⟨[.int .i64 x.f2], [.int .u64 x.f3.f0, .int .u64 x.f3.f1], rfl, rfl, (k74_mk w x.f3 )⟩⟩⟩
theorem k118_mkM (w : World) (base : Nat) (ok : Nat → Prop) (x : S118)  : k118.M w base ok x [.int .i64 x.f0, .int .i64 x.f1, .int .i64 x.f2, .int .u64 x.f3.f0, .int .u64 x.f3.f1] := ⟨[.int .i64 x.f0], [.int .i64 x.f1, .int .i64 x.f2, .int .u64 x.f3.f0, .int .u64 x.f3.f1], rfl, rfl, ⟨[.int .i64 x.f1], [.int .i64 x.f2, .int .u64 x.f3.f0, .int .u64 x.f3.f1], rfl, rfl, ⟨[.int .i64 x.f2], [.int .u64 x.f3.f0, .int .u64 x.f3.f1], rfl, rfl, (k74_mkM w base ok x.f3 )⟩⟩⟩
theorem k118_mkF (W : World) (ok : Nat → Prop) (x : S118) : Kd.FK k118 W ok x [.int .i64 x.f0, .int .i64 x.f1, .int .i64 x.f2, .int .u64 x.f3.f0, .int .u64 x.f3.f1] := fun W2 _ => k118_mk W2 x
def rd_T118 (xs : List S118) (i : Int) : S118 := xs.getD i.toNat z118
theorem at_T118 {w : World} {A : Option Addr} {n : Nat} {xs : List S118} (h : Kd.C k118 w A n xs) (i : Int) (h0 : 0 ≤ i) (h1 : i < n) : ∃ ad , A = some ad ∧ w.cell? (ad.add (i.toNat * 5)) = some (.int .i64 (rd_T118 xs i).f0) ∧ w.cell? ⟨(ad.add (i.toNat * 5)).block, (ad.add (i.toNat * 5)).off + 1, none⟩ = some (.int .i64 (rd_T118 xs i).f1) ∧ w.cell? ⟨(ad.add (i.toNat * 5)).block, (ad.add (i.toNat * 5)).off + 2, none⟩ = some (.int .i64 (rd_T118 xs i).f2) ∧ w.cell? ⟨(ad.add (i.toNat * 5)).block, (ad.add (i.toNat * 5)).off + 3, none⟩ = some (.int .u64 (rd_T118 xs i).f3.f0) ∧ w.cell? ⟨(ad.add (i.toNat * 5)).block, (ad.add (i.toNat * 5)).off + 4, none⟩ = some (.int .u64 (rd_T118 xs i).f3.f1) := by
 obtain ⟨ad, c, e, _, hK, hc0⟩ := Kd.C_get h z118 i h0 h1; have hc : ∀ j u, c[j]? = some u → w.cell? (ad.add (i.toNat * 5 + j)) = some u := hc0; obtain rfl := k118_open hK
 exact ⟨ad, e, hc 0 _ rfl, by rw [← add_field _ _ 1 (by omega)]; exact hc 1 _ rfl, by rw [← add_field _ _ 2 (by omega)]; exact hc 2 _ rfl, by rw [← add_field _ _ 3 (by omega)]; exact hc 3 _ rfl, by rw [← add_field _ _ 4 (by omega)]; exact hc 4 _ rfl⟩
def rd_L6 (xs : List (List S105)) (i : Int) : (List S105) := xs.getD i.toNat ([] : List S105)
theorem at_L6 {w : World} {A : Option Addr} {n : Nat} {xs : List (List S105)} (h : Kd.C (Kd.slice 105 k105) w A n xs) (i : Int) (h0 : 0 ≤ i) (h1 : i < n) : ∃ ad A0 c0, A = some ad ∧ w.cell? (ad.add i.toNat) = some (.slice A0 (rd_L6 xs i).length c0) ∧ (rd_L6 xs i).length ≤ c0 ∧ k105.C w A0 (rd_L6 xs i).length (rd_L6 xs i) := by
 obtain ⟨ad, c, e, _, hK, hc0⟩ := Kd.C_get h ([] : List S105) i h0 h1; have hc : ∀ j u, c[j]? = some u → w.cell? (ad.add (i.toNat * 1 + j)) = some u := hc0; obtain ⟨A0, c0, rfl, l0, g0⟩ := hK
 exact ⟨ad, A0, c0, e, by have hq := hc 0 _ rfl; rwa [Nat.mul_one, Nat.add_zero] at hq, l0, g0⟩
/-! #### struct type 24 -/
structure S24 where
 f0 : Int
 f1 : Int
 f2 : Int
 f3 : Int
 f4 : Int
 f5 : (List S105)
def z24 : S24 := ⟨(0 : Int), (0 : Int), (0 : Int), (0 : Int), (0 : Int), ([] : List S105)⟩
def k24 : Kd S24 := Kd.iso (Kd.pair (Kd.int .i64) (Kd.pair (Kd.int .i64) (Kd.pair (Kd.int .i64) (Kd.pair (Kd.int .i64) (Kd.pair (Kd.int .i64) (Kd.slice 105 k105)))))) (fun x : S24 => (x.f0, x.f1, x.f2, x.f3, x.f4, x.f5))
theorem k24_open {w : World} {x : S24} {cs : List Value} (h : k24.K w x cs) : ∃ A5 c5, cs = [.int .i64 x.f0, .int .i64 x.f1, .int .i64 x.f2, .int .i64 x.f3, .int .i64 x.f4, .slice A5 x.f5.length c5] ∧ x.f5.length ≤ c5 ∧ k105.C w A5 x.f5.length x.f5 := by
 obtain ⟨_, _, rfl, rfl, ⟨_, _, rfl, rfl, ⟨_, _, rfl, rfl, ⟨_, _, rfl, rfl, ⟨_, _, rfl, rfl, ⟨A5, c5, rfl, l5, g5⟩⟩⟩⟩⟩⟩ := h
 exact ⟨A5, c5, rfl, l5, g5⟩
theorem k24_openM {w : World} {base : Nat} {ok : Nat → Prop} {x : S24} {cs : List Value} (h : k24.M w base ok x cs) : ∃ v5, cs = [.int .i64 x.f0, .int .i64 x.f1, .int .i64 x.f2, .int .i64 x.f3, .int .i64 x.f4, v5] ∧ k105.R 105 w base ok v5 x.f5 := by
 obtain ⟨_, _, rfl, rfl, ⟨_, _, rfl, rfl, ⟨_, _, rfl, rfl, ⟨_, _, rfl, rfl, ⟨_, _, rfl, rfl, ⟨v5, rfl, g5⟩⟩⟩⟩⟩⟩ := h
 exact ⟨v5, rfl, g5⟩
theorem k24_mk (w : World) (x : S24) {A5 : Option Addr} {c5 : Nat} (l5 : x.f5.length ≤ c5) (g5 : k105.C w A5 x.f5.length x.f5) : k24.K w x [.int .i64 x.f0, .int .i64 x.f1, .int .i64 x.f2, .int .i64 x.f3, .int .i64 x.f4, .slice A5 x.f5.length c5] := ⟨[.int .i64 x.f0], [.int .i64 x.f1, .int .i64 x.f2, .int .i64 x.f3, .int .i64 x.f4, .slice A5 x.f5.length c5], rfl, rfl, ⟨[.int .i64 x.f1], [.int .i64 x.f2, .int .i64 x.f3, .int .i64 x.f4, .slice A5 x.f5.length c5], rfl, rfl, ⟨[.int .i64 x.f2], [.int .i64 x.f3, .int .i64 x.f4, .slice A5 x.f5.length c5], rfl, rfl, ⟨[.int .i64 x.f3], [.int .i64 x.f4, .slice A5 x.f5.length c5], rfl, rfl, ⟨[.int .i64 x.f4], [.slice A5 x.f5.length c5], rfl, rfl, ⟨A5, c5, rfl, l5, g5⟩⟩⟩⟩⟩⟩
theorem k24_mkM (w : World) (base : Nat) (ok : Nat → Prop) (x : S24) {v5 : Value} (g5 : k105.R 105 w base ok v5 x.f5) : k24.M w base ok x [.int .i64 x.f0, .int .i64 x.f1, .int .i64 x.f2, .int .i64 x.f3, .int .i64 x.f4, v5] := ⟨[.int .i64 x.f0], [.int .i64 x.f1, .int .i64 x.f2, .int .i64 x.f3, .int .i64 x.f4, v5], rfl, rfl, ⟨[.int .i64 x.f1], [.int .i64 x.f2, .int .i64 x.f3, .int .i64 x.f4, v5], rfl, rfl, ⟨[.int .i64 x.f2], [.int .i64 x.f3, .int .i64 x.f4, v5], rfl, rfl, ⟨[.int .i64 x.f3], [.int .i64 x.f4, v5], rfl, rfl, ⟨[.int .i64 x.f4], [v5], rfl, rfl, ⟨v5, rfl, g5⟩⟩⟩⟩⟩⟩
theorem k24_openF {W : World} {ok : Nat → Prop} {x : S24} {cs : List Value} (h : Kd.FK k24 W ok x cs) : ∃ A5 c5, cs = [.int .i64 x.f0, .int .i64 x.f1, .int .i64 x.f2, .int .i64 x.f3, .int .i64 x.f4, .slice A5 x.f5.length c5] ∧ x.f5.length ≤ c5 ∧ Kd.F k105 W ok A5 x.f5.length x.f5 := by
 obtain ⟨A5, c5, rfl, l5, _⟩ := k24_open (Kd.FK_now h)
 exact ⟨A5, c5, rfl, l5, (fun W' hW => by obtain ⟨A5_, c5_, he, l5_, g5_⟩ := k24_open (h W' hW); injection (Option.some.inj (show some (Value.slice A5 x.f5.length c5) = some (Value.slice A5_ x.f5.length c5_) from congrArg (fun l => l[5]?) he)) with ha_ _ _; rw [ha_]; exact g5_)⟩
theorem k24_mkF (W : World) (ok : Nat → Prop) (x : S24) {A5 : Option Addr} {c5 : Nat} (l5 : x.f5.length ≤ c5) (g5 : Kd.F k105 W ok A5 x.f5.length x.f5) : Kd.FK k24 W ok x [.int .i64 x.f0, .int .i64 x.f1, .int .i64 x.f2, .int .i64 x.f3, .int .i64 x.f4, .slice A5 x.f5.length c5] := fun W2 hW => k24_mk W2 x l5 (g5 W2 hW)
def rd_T24 (xs : List S24) (i : Int) : S24 := xs.getD i.toNat z24
theorem at_T24 {w : World} {A : Option Addr} {n : Nat} {xs : List S24} (h : Kd.C k24 w A n xs) (i : Int) (h0 : 0 ≤ i) (h1 : i < n) : ∃ ad A5 c5, A = some ad ∧ w.cell? (ad.add (i.toNat * 6)) = some (.int .i64 (rd_T24 xs i).f0) ∧ w.cell? ⟨(ad.add (i.toNat * 6)).block, (ad.add (i.toNat * 6)).off + 1, none⟩ = some (.int .i64 (rd_T24 xs i).f1) ∧ w.cell? ⟨(ad.add (i.toNat * 6)).block, (ad.add (i.toNat * 6)).off + 2, none⟩ = some (.int .i64 (rd_T24 xs i).f2) ∧ w.cell? ⟨(ad.add (i.toNat * 6)).block, (ad.add (i.toNat * 6)).off + 3, none⟩ = some (.int .i64 (rd_T24 xs i).f3) ∧ w.cell? ⟨(ad.add (i.toNat * 6)).block, (ad.add (i.toNat * 6)).off + 4, none⟩ = some (.int .i64 (rd_T24 xs i).f4) ∧ w.cell? ⟨(ad.add (i.toNat * 6)).block, (ad.add (i.toNat * 6)).off + 5, none⟩ = some (.slice A5 (rd_T24 xs i).f5.length c5) ∧ (rd_T24 xs i).f5.length ≤ c5 ∧ k105.C w A5 (rd_T24 xs i).f5.length (rd_T24 xs i).f5 := by
 obtain ⟨ad, c, e, _, hK, hc0⟩ := Kd.C_get h z24 i h0 h1; have hc : ∀ j u, c[j]? = some u → w.cell? (ad.add (i.toNat * 6 + j)) = some u := hc0; obtain ⟨A5, c5, rfl, l5, g5⟩ := k24_open hK
 exact ⟨ad, A5, c5, e, hc 0 _ rfl, by rw [← add_field _ _ 1 (by omega)]; exact hc 1 _ rfl, by rw [← add_field _ _ 2 (by omega)]; exact hc 2 _ rfl, by rw [← add_field _ _ 3 (by omega)]; exact hc 3 _ rfl, by rw [← add_field _ _ 4 (by omega)]; exact hc 4 _ rfl, by rw [← add_field _ _ 5 (by omega)]; exact hc 5 _ rfl, l5, g5⟩
def rd_L8 (xs : List (List S76)) (i : Int) : (List S76) := xs.getD i.toNat ([] : List S76)
theorem at_L8 {w : World} {A : Option Addr} {n : Nat} {xs : List (List S76)} (h : Kd.C (Kd.slice 76 k76) w A n xs) (i : Int) (h0 : 0 ≤ i) (h1 : i < n) : ∃ ad A0 c0, A = some ad ∧ w.cell? (ad.add i.toNat) = some (.slice A0 (rd_L8 xs i).length c0) ∧ (rd_L8 xs i).length ≤ c0 ∧ k76.C w A0 (rd_L8 xs i).length (rd_L8 xs i) := by
 obtain ⟨ad, c, e, _, hK, hc0⟩ := Kd.C_get h ([] : List S76) i h0 h1; have hc : ∀ j u, c[j]? = some u → w.cell? (ad.add (i.toNat * 1 + j)) = some u := hc0; obtain ⟨A0, c0, rfl, l0, g0⟩ := hK
 exact ⟨ad, A0, c0, e, by have hq := hc 0 _ rfl; rwa [Nat.mul_one, Nat.add_zero] at hq, l0, g0⟩
def rd_L9 (xs : List (List S118)) (i : Int) : (List S118) := xs.getD i.toNat ([] : List S118)
theorem at_L9 {w : World} {A : Option Addr} {n : Nat} {xs : List (List S118)} (h : Kd.C (Kd.slice 118 k118) w A n xs) (i : Int) (h0 : 0 ≤ i) (h1 : i < n) : ∃ ad A0 c0, A = some ad ∧ w.cell? (ad.add i.toNat) = some (.slice A0 (rd_L9 xs i).length c0) ∧ (rd_L9 xs i).length ≤ c0 ∧ k118.C w A0 (rd_L9 xs i).length (rd_L9 xs i) := by
 obtain ⟨ad, c, e, _, hK, hc0⟩ := Kd.C_get h ([] : List S118) i h0 h1; have hc : ∀ j u, c[j]? = some u → w.cell? (ad.add (i.toNat * 1 + j)) = some u := hc0; obtain ⟨A0, c0, rfl, l0, g0⟩ := hK
 exact ⟨ad, A0, c0, e, by have hq := hc 0 _ rfl; rwa [Nat.mul_one, Nat.add_zero] at hq, l0, g0⟩
def rd_L10 (xs : List (List (List S118))) (i : Int) : (List (List S118)) := xs.getD i.toNat ([] : List (List S118))
theorem at_L10 {w : World} {A : Option Addr} {n : Nat} {xs : List (List (List S118))} (h : Kd.C (Kd.slice 50 (Kd.slice 118 k118)) w A n xs) (i : Int) (h0 : 0 ≤ i) (h1 : i < n) : ∃ ad A0 c0, A = some ad ∧ w.cell? (ad.add i.toNat) = some (.slice A0 (rd_L10 xs i).length c0) ∧ (rd_L10 xs i).length ≤ c0 ∧ (Kd.slice 118 k118).C w A0 (rd_L10 xs i).length (rd_L10 xs i) := by
 obtain ⟨ad, c, e, _, hK, hc0⟩ := Kd.C_get h ([] : List (List S118)) i h0 h1; have hc : ∀ j u, c[j]? = some u → w.cell? (ad.add (i.toNat * 1 + j)) = some u := hc0; obtain ⟨A0, c0, rfl, l0, g0⟩ := hK
 exact ⟨ad, A0, c0, e, by have hq := hc 0 _ rfl; rwa [Nat.mul_one, Nat.add_zero] at hq, l0, g0⟩
/-! #### struct type 108 -/
structure S108 where
 f0 : (List S76)
 f1 : (List (List S118))
 f2 : (List S118)
def z108 : S108 := ⟨([] : List S76), ([] : List (List S118)), ([] : List S118)⟩
def k108 : Kd S108 := Kd.iso (Kd.pair (Kd.slice 76 k76) (Kd.pair (Kd.slice 50 (Kd.slice 118 k118)) (Kd.slice 118 k118))) (fun x : S108 => (x.f0, x.f1, x.f2))
theorem k108_open {w : World} {x : S108} {cs : List Value} (h : k108.K w x cs) : ∃ A0 c0 A1 c1 A2 c2, cs = [.slice A0 x.f0.length c0, .slice A1 x.f1.length c1, .slice A2 x.f2.length c2] ∧ x.f0.length ≤ c0 ∧ k76.C w A0 x.f0.length x.f0 ∧ x.f1.length ≤ c1 ∧ (Kd.slice 118 k118).C w A1 x.f1.length x.f1 ∧ x.f2.length ≤ c2 ∧ k118.C w A2 x.f2.length x.f2 := by
 obtain ⟨_, _, rfl, ⟨A0, c0, rfl, l0, g0⟩, ⟨_, _, rfl, ⟨A1, c1, rfl, l1, g1⟩, ⟨A2, c2, rfl, l2, g2⟩⟩⟩ := h
 exact ⟨A0, c0, A1, c1, A2, c2, rfl, l0, g0, l1, g1, l2, g2⟩
theorem k108_openM {w : World} {base : Nat} {ok : Nat → Prop} {x : S108} {cs : List Value} (h : k108.M w base ok x cs) : ∃ v0 v1 v2, cs = [v0, v1, v2] ∧ k76.R 76 w base ok v0 x.f0 ∧ (Kd.slice 118 k118).R 50 w base ok v1 x.f1 ∧ k118.R 118 w base ok v2 x.f2 := by
 obtain ⟨_, _, rfl, ⟨v0, rfl, g0⟩, ⟨_, _, rfl, ⟨v1, rfl, g1⟩, ⟨v2, rfl, g2⟩⟩⟩ := h
 exact ⟨v0, v1, v2, rfl, g0, g1, g2⟩
theorem k108_mk (w : World) (x : S108) {A0 : Option Addr} {c0 : Nat} (l0 : x.f0.length ≤ c0) (g0 : k76.C w A0 x.f0.length x.f0) {A1 : Option Addr} {c1 : Nat} (l1 : x.f1.length ≤ c1) (g1 : (Kd.slice 118 k118).C w A1 x.f1.length x.f1) {A2 : Option Addr} {c2 : Nat} (l2 : x.f2.length ≤ c2) (g2 : k118.C w A2 x.f2.length x.f2) : k108.K w x [.slice A0 x.f0.length c0, .slice A1 x.f1.length c1, .slice A2 x.f2.length c2] := ⟨[.slice A0 x.f0.length c0], [.slice A1 x.f1.length c1, .slice A2 x.f2.length c2], rfl, ⟨A0, c0, rfl, l0, g0⟩, ⟨[.slice A1 x.f1.length c1], [.slice A2 x.f2.length c2], rfl, ⟨A1, c1, rfl, l1, g1⟩, ⟨A2, c2, rfl, l2, g2⟩⟩⟩
theorem k108_mkM (w : World) (base : Nat) (ok : Nat → Prop) (x : S108) {v0 : Value} (g0 : k76.R 76 w base ok v0 x.f0) {v1 : Value} (g1 : (Kd.slice 118 k118).R 50 w base ok v1 x.f1) {v2 : Value} (g2 : k118.R 118 w base ok v2 x.f2) : k108.M w base ok x [v0, v1, v2] := ⟨[v0], [v1, v2], rfl, ⟨v0, rfl, g0⟩, ⟨[v1], [v2], rfl, ⟨v1, rfl, g1⟩, ⟨v2, rfl, g2⟩⟩⟩
theorem k108_openF {W : World} {ok : Nat → Prop} {x : S108} {cs : List Value} (h : Kd.FK k108 W ok x cs) : ∃ A0 c0 A1 c1 A2 c2, cs = [.slice A0 x.f0.length c0, .slice A1 x.f1.length c1, .slice A2 x.f2.length c2] ∧ x.f0.length ≤ c0 ∧ Kd.F k76 W ok A0 x.f0.length x.f0 ∧ x.f1.length ≤ c1 ∧ Kd.F (Kd.slice 118 k118) W ok A1 x.f1.length x.f1 ∧ x.f2.length ≤ c2 ∧ Kd.F k118 W ok A2 x.f2.length x.f2 := by
 obtain ⟨A0, c0, A1, c1, A2, c2, rfl, l0, _, l1, _, l2, _⟩ := k108_open (Kd.FK_now h)
 exact ⟨A0, c0, A1, c1, A2, c2, rfl, l0, (fun W' hW => by obtain ⟨A0_, c0_, A1_, c1_, A2_, c2_, he, l0_, g0_, l1_, g1_, l2_, g2_⟩ := k108_open (h W' hW); injection (Option.some.inj (show some (Value.slice A0 x.f0.length c0) = some (Value.slice A0_ x.f0.length c0_) from congrArg (fun l => l[0]?) he)) with ha_ _ _; rw [ha_]; exact g0_), l1, (fun W' hW => by obtain ⟨A0_, c0_, A1_, c1_, A2_, c2_, he, l0_, g0_, l1_, g1_, l2_, g2_⟩ := k108_open (h W' hW); injection (Option.some.inj (show some (Value.slice A1 x.f1.length c1) = some (Value.slice A1_ x.f1.length c1_) from congrArg (fun l => l[1]?) he)) with ha_ _ _; rw [ha_]; exact g1_), l2, (fun W' hW => by obtain ⟨A0_, c0_, A1_, c1_, A2_, c2_, he, l0_, g0_, l1_, g1_, l2_, g2_⟩ := k108_open (h W' hW); injection (Option.some.inj (show some (Value.slice A2 x.f2.length c2) = some (Value.slice A2_ x.f2.length c2_) from congrArg (fun l => l[2]?) he)) with ha_ _ _; rw [ha_]; exact g2_)⟩
theorem k108_mkF (W : World) (ok : Nat → Prop) (x : S108) {A0 : Option Addr} {c0 : Nat} (l0 : x.f0.length ≤ c0) (g0 : Kd.F k76 W ok A0 x.f0.length x.f0) {A1 : Option Addr} {c1 : Nat} (l1 : x.f1.length ≤ c1) (g1 : Kd.F (Kd.slice 118 k118) W ok A1 x.f1.length x.f1) {A2 : Option Addr} {c2 : Nat} (l2 : x.f2.length ≤ c2) (g2 : Kd.F k118 W ok A2 x.f2.length x.f2) : Kd.FK k108 W ok x [.slice A0 x.f0.length c0, .slice A1 x.f1.length c1, .slice A2 x.f2.length c2] := fun W2 hW => k108_mk W2 x l0 (g0 W2 hW) l1 (g1 W2 hW) l2 (g2 W2 hW)
def rd_T108 (xs : List S108) (i : Int) : S108 := xs.getD i.toNat z108
theorem at_T108 {w : World} {A : Option Addr} {n : Nat} {xs : List S108} (h : Kd.C k108 w A n xs) (i : Int) (h0 : 0 ≤ i) (h1 : i < n) : ∃ ad A0 c0 A1 c1 A2 c2, A = some ad ∧ w.cell? (ad.add (i.toNat * 3)) = some (.slice A0 (rd_T108 xs i).f0.length c0) ∧ w.cell? ⟨(ad.add (i.toNat * 3)).block, (ad.add (i.toNat * 3)).off + 1, none⟩ = some (.slice A1 (rd_T108 xs i).f1.length c1) ∧ w.cell? ⟨(ad.add (i.toNat * 3)).block, (ad.add (i.toNat * 3)).off + 2, none⟩ = some (.slice A2 (rd_T108 xs i).f2.length c2) ∧ (rd_T108 xs i).f0.length ≤ c0 ∧ k76.C w A0 (rd_T108 xs i).f0.length (rd_T108 xs i).f0 ∧ (rd_T108 xs i).f1.length ≤ c1 ∧ (Kd.slice 118 k118).C w A1 (rd_T108 xs i).f1.length (rd_T108 xs i).f1 ∧ (rd_T108 xs i).f2.length ≤ c2 ∧ k118.C w A2 (rd_T108 xs i).f2.length (rd_T108 xs i).f2 := by
 obtain ⟨ad, c, e, _, hK, hc0⟩ := Kd.C_get h z108 i h0 h1; have hc : ∀ j u, c[j]? = some u → w.cell? (ad.add (i.toNat * 3 + j)) = some u := hc0; obtain ⟨A0, c0, A1, c1, A2, c2, rfl, l0, g0, l1, g1, l2, g2⟩ := k108_open hK
 exact ⟨ad, A0, c0, A1, c1, A2, c2, e, hc 0 _ rfl, by rw [← add_field _ _ 1 (by omega)]; exact hc 1 _ rfl, by rw [← add_field _ _ 2 (by omega)]; exact hc 2 _ rfl, l0, g0, l1, g1, l2, g2⟩
/-! #### struct type 106 -/
structure S106 where
 f0 : Int
 f1 : Int
 f2 : Int
 f3 : Int
 f4 : Int
def z106 : S106 := ⟨(0 : Int), (0 : Int), (0 : Int), (0 : Int), (0 : Int)⟩
def k106 : Kd S106 := Kd.iso (Kd.pair (Kd.int .i64) (Kd.pair (Kd.int .i64) (Kd.pair (Kd.int .i64) (Kd.pair (Kd.int .i64) (Kd.int .i64))))) (fun x : S106 => (x.f0, x.f1, x.f2, x.f3, x.f4))
theorem k106_open {w : World} {x : S106} {cs : List Value} (h : k106.K w x cs) : cs = [.int .i64 x.f0, .int .i64 x.f1, .int .i64 x.f2, .int .i64 x.f3, .int .i64 x.f4] := by
 obtain ⟨_, _, rfl, rfl, ⟨_, _, rfl, rfl, ⟨_, _, rfl, rfl, ⟨_, _, rfl, rfl, rfl⟩⟩⟩⟩ := h
 exact rfl
theorem k106_openM {w : World} {base : Nat} {ok : Nat → Prop} {x : S106} {cs : List Value} (h : k106.M w base ok x cs) : cs = [.int .i64 x.f0, .int .i64 x.f1, .int .i64 x.f2, .int .i64 x.f3, .int .i64 x.f4] := by
 obtain ⟨_, _, rfl, rfl, ⟨_, _, rfl, rfl, ⟨_, _, rfl, rfl, ⟨_, _, rfl, rfl, rfl⟩⟩⟩⟩ := h
 exact rfl
theorem k106_mk (w : World) (x : S106)  : k106.K w x [.int .i64 x.f0, .int .i64 x.f1, .int .i64 x.f2, .int .i64 x.f3, .int .i64 x.f4] := ⟨[.int .i64 x.f0], [.int .i64 x.f1, .int .i64 x.f2, .int .i64 x.f3, .int .i64 x.f4], rfl, rfl, ⟨[.int .i64 x.f1], [.int .i64 x.f2, .int .i64 x.f3, .int .i64 x.f4], rfl, rfl, ⟨[.int .i64 x.f2], [.int .i64 x.f3, .int .i64 x.f4], rfl, rfl, ⟨[.int .i64 x.f3], [.int .i64 x.f4], rfl, rfl, rfl⟩⟩⟩⟩
theorem k106_mkM (w : World) (base : Nat) (ok : Nat → Prop) (x : S106)  : k106.M w base ok x [.int .i64 x.f0, .int .i64 x.f1, .int .i64 x.f2, .int .i64 x.f3, .int .i64 x.f4] := ⟨[.int .i64 x.f0], [.int .i64 x.f1, .int .i64 x.f2, .int .i64 x.f3, .int .i64 x.f4], rfl, rfl, ⟨[.int .i64 x.f1], [.int .i64 x.f2, .int .i64 x.f3, .int .i64 x.f4], rfl, rfl, ⟨[.int .i64 x.f2], [.int .i64 x.f3, .int .i64 x.f4], rfl, rfl, ⟨[.int .i64 x.f3], [.int .i64 x.f4], rfl, rfl, rfl⟩⟩⟩⟩
theorem k106_mkF (W : World) (ok : Nat → Prop) (x : S106) : Kd.FK k106 W ok x [.int .i64 x.f0, .int .i64 x.f1, .int .i64 x.f2, .int .i64 x.f3, .int .i64 x.f4] := fun W2 _ => k106_mk W2 x
def rd_T106 (xs : List S106) (i : Int) : S106 := xs.getD i.toNat z106
theorem at_T106 {w : World} {A : Option Addr} {n : Nat} {xs : List S106} (h : Kd.C k106 w A n xs) (i : Int) (h0 : 0 ≤ i) (h1 : i < n) : ∃ ad , A = some ad ∧ w.cell? (ad.add (i.toNat * 5)) = some (.int .i64 (rd_T106 xs i).f0) ∧ w.cell? ⟨(ad.add (i.toNat * 5)).block, (ad.add (i.toNat * 5)).off + 1, none⟩ = some (.int .i64 (rd_T106 xs i).f1) ∧ w.cell? ⟨(ad.add (i.toNat * 5)).block, (ad.add (i.toNat * 5)).off + 2, none⟩ = some (.int .i64 (rd_T106 xs i).f2) ∧ w.cell? ⟨(ad.add (i.toNat * 5)).block, (ad.add (i.toNat * 5)).off + 3, none⟩ = some (.int .i64 (rd_T106 xs i).f3) ∧ w.cell? ⟨(ad.add (i.toNat * 5)).block, (ad.add (i.toNat * 5)).off + 4, none⟩ = some (.int .i64 (rd_T106 xs i).f4) := by
 obtain ⟨ad, c, e, _, hK, hc0⟩ := Kd.C_get h z106 i h0 h1; have hc : ∀ j u, c[j]? = some u → w.cell? (ad.add (i.toNat * 5 + j)) = some u := hc0; obtain rfl := k106_open hK
 exact ⟨ad, e, hc 0 _ rfl, by rw [← add_field _ _ 1 (by omega)]; exact hc 1 _ rfl, by rw [← add_field _ _ 2 (by omega)]; exact hc 2 _ rfl, by rw [← add_field _ _ 3 (by omega)]; exact hc 3 _ rfl, by rw [← add_field _ _ 4 (by omega)]; exact hc 4 _ rfl⟩
/-! #### struct type 45 -/
structure S45 where
 f0 : Int
 f1 : Int
def z45 : S45 := ⟨(0 : Int), (0 : Int)⟩
def k45 : Kd S45 := Kd.iso (Kd.pair (Kd.int .u64) (Kd.int .u64)) (fun x : S45 => (x.f0, x.f1))
theorem k45_open {w : World} {x : S45} {cs : List Value} (h : k45.K w x cs) : cs = [.int .u64 x.f0, .int .u64 x.f1] := by
 obtain ⟨_, _, rfl, rfl, rfl⟩ := h
 exact rfl
theorem k45_openM {w : World} {base : Nat} {ok : Nat → Prop} {x : S45} {cs : List Value} (h : k45.M w base ok x cs) : cs = [.int .u64 x.f0, .int .u64 x.f1] := by
 obtain ⟨_, _, rfl, rfl, rfl⟩ := h
 exact rfl
theorem k45_mk (w : World) (x : S45)  : k45.K w x [.int .u64 x.f0, .int .u64 x.f1] := ⟨[.int .u64 x.f0], [.int .u64 x.f1], rfl, rfl, rfl⟩
theorem k45_mkM (w : World) (base : Nat) (ok : Nat → Prop) (x : S45)  : k45.M w base ok x [.int .u64 x.f0, .int .u64 x.f1] := ⟨[.int .u64 x.f0], [.int .u64 x.f1], rfl, rfl, rfl⟩
theorem k45_mkF (W : World) (ok : Nat → Prop) (x : S45) : Kd.FK k45 W ok x [.int .u64 x.f0, .int .u64 x.f1] := fun W2 _ => k45_mk W2 x
def rd_T45 (xs : List S45) (i : Int) : S45 := xs.getD i.toNat z45
theorem at_T45 {w : World} {A : Option Addr} {n : Nat} {xs : List S45} (h : Kd.C k45 w A n xs) (i : Int) (h0 : 0 ≤ i) (h1 : i < n) : ∃ ad , A = some ad ∧ w.cell? (ad.add (i.toNat * 2)) = some (.int .u64 (rd_T45 xs i).f0) ∧ w.cell? ⟨(ad.add (i.toNat * 2)).block, (ad.add (i.toNat * 2)).off + 1, none⟩ = some (.int .u64 (rd_T45 xs i).f1) := by
 obtain ⟨ad, c, e, _, hK, hc0⟩ := Kd.C_get h z45 i h0 h1; have hc : ∀ j u, c[j]? = some u → w.cell? (ad.add (i.toNat * 2 + j)) = some u := hc0; obtain rfl := k45_open hK
 exact ⟨ad, e, hc 0 _ rfl, by rw [← add_field _ _ 1 (by omega)]; exact hc 1 _ rfl⟩
/-! #### struct type 47 -/
structure S47 where
 f0 : Int
 f1 : Int
 f2 : Int
 f3 : S45
def z47 : S47 := ⟨(0 : Int), (0 : Int), (0 : Int), z45⟩
def k47 : Kd S47 := Kd.iso (Kd.pair (Kd.int .i64) (Kd.pair (Kd.int .i64) (Kd.pair (Kd.int .i64) k45))) (fun x : S47 => (x.f0, x.f1, x.f2, x.f3))
theorem k47_open {w : World} {x : S47} {cs : List Value} (h : k47.K w x cs) : cs = [.int .i64 x.f0, .int .i64 x.f1, .int .i64 x.f2, .int .u64 x.f3.f0, .int .u64 x.f3.f1] := by
 obtain ⟨_, _, rfl, rfl, ⟨_, _, rfl, rfl, ⟨_, _, rfl, rfl, s3⟩⟩⟩ := h
 obtain rfl := k45_open s3
 exact rfl
theorem k47_openM {w : World} {base : Nat} {ok : Nat → Prop} {x : S47} {cs : List Value} (h : k47.M w base ok x cs) : cs = [.int .i64 x.f0, .int .i64 x.f1, .int .i64 x.f2, .int .u64 x.f3.f0, .int .u64 x.f3.f1] := by
 obtain ⟨_, _, rfl, rfl, ⟨_, _, rfl, rfl, ⟨_, _, rfl, rfl, s3⟩⟩⟩ := h
 obtain rfl := k45_openM s3
 exact rfl
theorem k47_mk (w : World) (x : S47)  : k47.K w x [.int .i64 x.f0, .int .i64 x.f1, .int .i64 x.f2, .int .u64 x.f3.f0, .int .u64 x.f3.f1] := ⟨[.int .i64 x.f0], [.int .i64 x.f1, .int .i64 x.f2, .int .u64 x.f3.f0, .int .u64 x.f3.f1], rfl, rfl, ⟨[.int .i64 x.f1], [.int .i64 x.f2, .int .u64 x.f3.f0, .int .u64 x.f3.f1], rfl, rfl, ⟨[.int .i64 x.f2], [.int .u64 x.f3.f0, .int .u64 x.f3.f1], rfl, rfl, (k45_mk w x.f3 )⟩⟩⟩
theorem k47_mkM (w : World) (base : Nat) (ok : Nat → Prop) (x : S47)  : k47.M w base ok x [.int .i64 x.f0, .int .i64 x.f1, .int .i64 x.f2, .int .u64 x.f3.f0, .int .u64 x.f3.f1] := ⟨[.int .i64 x.f0], [.int .i64 x.f1, .int .i64 x.f2, .int .u64 x.f3.f0, .int .u64 x.f3.f1], rfl, rfl, ⟨[.int .i64 x.f1], [.int .i64 x.f2, .int .u64 x.f3.f0, .int .u64 x.f3.f1], rfl, rfl, ⟨[.int .i64 x.f2], [.int .u64 x.f3.f0, .int .u64 x.f3.f1], rfl, rfl, (k45_mkM w base ok x.f3 )⟩⟩⟩
theorem k47_mkF (W : World) (ok : Nat → Prop) (x : S47) : Kd.FK k47 W ok x [.int .i64 x.f0, .int .i64 x.f1, .int .i64 x.f2, .int .u64 x.f3.f0, .int .u64 x.f3.f1] := fun W2 _ => k47_mk W2 x
def rd_T47 (xs : List S47) (i : Int) : S47 := xs.getD i.toNat z47
theorem at_T47 {w : World} {A : Option Addr} {n : Nat} {xs : List S47} (h : Kd.C k47 w A n xs) (i : Int) (h0 : 0 ≤ i) (h1 : i < n) : ∃ ad , A = some ad ∧ w.cell? (ad.add (i.toNat * 5)) = some (.int .i64 (rd_T47 xs i).f0) ∧ w.cell? ⟨(ad.add (i.toNat * 5)).block, (ad.add (i.toNat * 5)).off + 1, none⟩ = some (.int .i64 (rd_T47 xs i).f1) ∧ w.cell? ⟨(ad.add (i.toNat * 5)).block, (ad.add (i.toNat * 5)).off + 2, none⟩ = some (.int .i64 (rd_T47 xs i).f2) ∧ w.cell? ⟨(ad.add (i.toNat * 5)).block, (ad.add (i.toNat * 5)).off + 3, none⟩ = some (.int .u64 (rd_T47 xs i).f3.f0) ∧ w.cell? ⟨(ad.add (i.toNat * 5)).block, (ad.add (i.toNat * 5)).off + 4, none⟩ = some (.int .u64 (rd_T47 xs i).f3.f1) := by
 obtain ⟨ad, c, e, _, hK, hc0⟩ := Kd.C_get h z47 i h0 h1; have hc : ∀ j u, c[j]? = some u → w.cell? (ad.add (i.toNat * 5 + j)) = some u := hc0; obtain rfl := k47_open hK
 exact ⟨ad, e, hc 0 _ rfl, by rw [← add_field _ _ 1 (by omega)]; exact hc 1 _ rfl, by rw [← add_field _ _ 2 (by omega)]; exact hc 2 _ rfl, by rw [← add_field _ _ 3 (by omega)]; exact hc 3 _ rfl, by rw [← add_field _ _ 4 (by omega)]; exact hc 4 _ rfl⟩
/-! #### struct type 52 -/
structure S52 where
 f0 : Int
 f1 : Int
 f2 : Int
 f3 : S45
def z52 : S52 := ⟨(0 : Int), (0 : Int), (0 : Int), z45⟩
def k52 : Kd S52 := Kd.iso (Kd.pair (Kd.int .i64) (Kd.pair (Kd.int .i64) (Kd.pair (Kd.int .i64) k45))) (fun x : S52 => (x.f0, x.f1, x.f2, x.f3))
theorem k52_open {w : World} {x : S52} {cs : List Value} (h : k52.K w x cs) : cs = [.int .i64 x.f0, .int .i64 x.f1, .int .i64 x.f2, .int .u64 x.f3.f0, .int .u64 x.f3.f1] := by
 obtain ⟨_, _, rfl, rfl, ⟨_, _, rfl, rfl, ⟨_, _, rfl, rfl, s3⟩⟩⟩ := h
 obtain rfl := k45_open s3
 exact rfl
theorem k52_openM {w : World} {base : Nat} {ok : Nat → Prop} {x : S52} {cs : List Value} (h : k52.M w base ok x cs) : cs = [.int .i64 x.f0, .int .i64 x.f1, .int .i64 x.f2, .int .u64 x.f3.f0, .int .u64 x.f3.f1] := by
 obtain ⟨_, _, rfl, rfl, ⟨_, _, rfl, rfl, ⟨_, _, rfl, rfl, s3⟩⟩⟩ := h
 obtain rfl := k45_openM s3
 exact rfl
theorem k52_mk (w : World) (x : S52)  : k52.K w x [.int .i64 x.f0, .int .i64 x.f1, .int .i64 x.f2, .int .u64 x.f3.f0, .int .u64 x.f3.f1] := ⟨[.int .i64 x.f0], [.int .i64 x.f1, .int .i64 x.f2, .int .u64 x.f3.f0, .int .u64 x.f3.f1], rfl, rfl, ⟨[.int .i64 x.f1], [.int .i64 x.f2, .int .u64 x.f3.f0, .int .u64 x.f3.f1], rfl, rfl, ⟨[.int .i64 x.f2], [.int .u64 x.f3.f0, .int .u64 x.f3.f1], rfl, rfl, (k45_mk w x.f3 )⟩⟩⟩
theorem k52_mkM (w : World) (base : Nat) (ok : Nat → Prop) (x : S52)  : k52.M w base ok x [.int .i64 x.f0, .int .i64 x.f1, .int .i64 x.f2, .int .u64 x.f3.f0, .int .u64 x.f3.f1] := ⟨[.int .i64 x.f0], [.int .i64 x.f1, .int .i64 x.f2, .int .u64 x.f3.f0, .int .u64 x.f3.f1], rfl, rfl, ⟨[.int .i64 x.f1], [.int .i64 x.f2, .int .u64 x.f3.f0, .int .u64 x.f3.f1], rfl, rfl, ⟨[.int .i64 x.f2], [.int .u64 x.f3.f0, .int .u64 x.f3.f1], rfl, rfl, (k45_mkM w base ok x.f3 )⟩⟩⟩
theorem k52_mkF (W : World) (ok : Nat → Prop) (x : S52) : Kd.FK k52 W ok x [.int .i64 x.f0, .int .i64 x.f1, .int .i64 x.f2, .int .u64 x.f3.f0, .int .u64 x.f3.f1] := fun W2 _ => k52_mk W2 x
def rd_T52 (xs : List S52) (i : Int) : S52 := xs.getD i.toNat z52
theorem at_T52 {w : World} {A : Option Addr} {n : Nat} {xs : List S52} (h : Kd.C k52 w A n xs) (i : Int) (h0 : 0 ≤ i) (h1 : i < n) : ∃ ad , A = some ad ∧ w.cell? (ad.add (i.toNat * 5)) = some (.int .i64 (rd_T52 xs i).f0) ∧ w.cell? ⟨(ad.add (i.toNat * 5)).block, (ad.add (i.toNat * 5)).off + 1, none⟩ = some (.int .i64 (rd_T52 xs i).f1) ∧ w.cell? ⟨(ad.add (i.toNat * 5)).block, (ad.add (i.toNat * 5)).off + 2, none⟩ = some (.int .i64 (rd_T52 xs i).f2) ∧ w.cell? ⟨(ad.add (i.toNat * 5)).block, (ad.add (i.toNat * 5)).off + 3, none⟩ = some (.int .u64 (rd_T52 xs i).f3.f0) ∧ w.cell? ⟨(ad.add (i.toNat * 5)).block, (ad.add (i.toNat * 5)).off + 4, none⟩ = some (.int .u64 (rd_T52 xs i).f3.f1) := by
 obtain ⟨ad, c, e, _, hK, hc0⟩ := Kd.C_get h z52 i h0 h1; have hc : ∀ j u, c[j]? = some u → w.cell? (ad.add (i.toNat * 5 + j)) = some u := hc0; obtain rfl := k52_open hK
 exact ⟨ad, e, hc 0 _ rfl, by rw [← add_field _ _ 1 (by omega)]; exact hc 1 _ rfl, by rw [← add_field _ _ 2 (by omega)]; exact hc 2 _ rfl, by rw [← add_field _ _ 3 (by omega)]; exact hc 3 _ rfl, by rw [← add_field _ _ 4 (by omega)]; exact hc 4 _ rfl⟩
def rd_L16 (xs : List (List S52)) (i : Int) : (List S52) := xs.getD i.toNat ([] : List S52)
theorem at_L16 {w : World} {A : Option Addr} {n : Nat} {xs : List (List S52)} (h : Kd.C (Kd.slice 52 k52) w A n xs) (i : Int) (h0 : 0 ≤ i) (h1 : i < n) : ∃ ad A0 c0, A = some ad ∧ w.cell? (ad.add i.toNat) = some (.slice A0 (rd_L16 xs i).length c0) ∧ (rd_L16 xs i).length ≤ c0 ∧ k52.C w A0 (rd_L16 xs i).length (rd_L16 xs i) := by
 obtain ⟨ad, c, e, _, hK, hc0⟩ := Kd.C_get h ([] : List S52) i h0 h1; have hc : ∀ j u, c[j]? = some u → w.cell? (ad.add (i.toNat * 1 + j)) = some u := hc0; obtain ⟨A0, c0, rfl, l0, g0⟩ := hK
 exact ⟨ad, A0, c0, e, by have hq := hc 0 _ rfl; rwa [Nat.mul_one, Nat.add_zero] at hq, l0, g0⟩
end Go.Proofs.Ythiiodgpdoljoaa.PLc
/- The arguments' own readings for this seat: a system of gates. -/
namespace Go.Proofs.Ythiiodgpdoljoaa.Rd
open Go.RowKit Go.ChangeShapes Go.WideShapes Go.Deep Go.Proofs.YthiiodgpdoljoaaW.PrintWords Go.Proofs.Ythiiodgpdoljoaa.PLc
set_option linter.unusedVariables false
instance : Inhabited S105 := ⟨z105⟩
def I64 (n : Int) : Prop := (Lit.int .i64 n).wf = true
theorem rdInt : Rd Try.prog 3 (Kd.int .i64) (fun n => (Lit.int .i64 n).wf = true) := Rd.int Try.underlying3
def wfGate (g : S105) : Prop := (Lit.int .i64 g.f0).wf = true ∧ (Lit.int .i64 g.f1).wf = true ∧ (Lit.int .i64 g.f2).wf = true ∧ (Lit.int .i64 g.f3).wf = true ∧ (Lit.int .i64 g.f4).wf = true
theorem rdGate : Rd Try.prog 105 k105 (fun g => (Lit.int .i64 g.f0).wf = true ∧ (Lit.int .i64 g.f1).wf = true ∧ (Lit.int .i64 g.f2).wf = true ∧ (Lit.int .i64 g.f3).wf = true ∧ (Lit.int .i64 g.f4).wf = true) :=
  Rd.struct Try.underlying105 (by kernel_rfl) (Sq.cons rfl (by kernel_rfl) rdInt (Sq.cons rfl (by kernel_rfl) rdInt (Sq.cons rfl (by kernel_rfl) rdInt (Sq.cons rfl (by kernel_rfl) rdInt (Sq.one rfl (by kernel_rfl) rdInt)))))
    (fun x : S105 => (x.f0, x.f1, x.f2, x.f3, x.f4)) (fun p => ⟨p.1, p.2.1, p.2.2.1, p.2.2.2.1, p.2.2.2.2⟩) (fun _ => rfl)
theorem rdGates : Rd Try.prog 22 (Kd.slice 105 k105) (fun l => l.length ≤ maxLen ∧ ∀ a ∈ l, wfGate a) := Rd.slice Try.underlying22 (by kernel_rfl) rdGate
set_option maxRecDepth 100000 in
/-- A system that came in. -/
theorem argSystem {H : Type} {enc : TypeId × Value → H} {w : World} {r : Reach} {base b0 : Nat} {spare : Nat → Bool} {held : Bool} {v : Value} {x : DataW H} {p : List MemPlace} (hv : Value.okWide Try.prog w r b0 24 v) (h : DataW.Trod enc Try.prog w base spare held 24 v x p) :
    ∃ (s0 s1 s2 s3 s4 : Int) (A : Option Addr) (c : Nat) (l : List S105), v = .agg #[.int .i64 s0, .int .i64 s1, .int .i64 s2, .int .i64 s3, .int .i64 s4, .slice A l.length c] ∧ Kd.C k105 w A l.length l ∧ l.length ≤ c ∧
      I64 s0 ∧ I64 s1 ∧ I64 s2 ∧ I64 s3 ∧ I64 s4 ∧ l.length ≤ maxLen := by
  have rdSystem := Rd.struct Try.underlying24 (by kernel_rfl) (Sq.cons rfl (by kernel_rfl) rdInt (Sq.cons rfl (by kernel_rfl) rdInt (Sq.cons rfl (by kernel_rfl) rdInt (Sq.cons rfl (by kernel_rfl) rdInt (Sq.cons rfl (by kernel_rfl) rdInt (Sq.one rfl (by kernel_rfl) rdGates)))))) id id (fun _ => rfl)
  obtain ⟨cs, a, rfl, hK, h0, h1, h2, h3, h4, h5⟩ := rdSystem.argStruct Try.underlying24 hv h
  obtain ⟨_, _, rfl, rfl, ⟨_, _, rfl, rfl, ⟨_, _, rfl, rfl, ⟨_, _, rfl, rfl, ⟨_, _, rfl, rfl, ⟨A, c, rfl, hl, hC⟩⟩⟩⟩⟩⟩ := hK
  exact ⟨_, _, _, _, _, A, c, _, rfl, hC, hl, h0, h1, h2, h3, h4, h5.1⟩
end Go.Proofs.Ythiiodgpdoljoaa.Rd
namespace Go.Proofs.Ythiiodgpdoljoaa.PLc
open Go.RowKit Go.Proofs.YthiiodgpdoljoaaW.PrintWords Go.Proofs.YthiiodgpdoljoaaW.PrintLast Go.Proofs.YthiiodgpdoljoaaW.PrintMore
attribute [local go_sem] max2_int min2_int max_two min_two max_three min_three max_four min_four   -- for this text's walks alone
set_option linter.unusedVariables false
set_option linter.unusedSimpArgs false
/-! ### turn_Fits: function 75 -/
def turn_Fits.f (a0 : Int) (a1 : Int) (a2 : Int) : Option (Bool) := if a0 ≥ 0 then (if a0 ≤ 3 then (if a1 ≥ 0 then (if a1 ≤ 6 then (if a2 ≥ 0 then (if 0 ≤ a1 then (if a2 < (shl .i64 1 a1) then (if a0 = 0 then (some (a2 == 0)) else (some true)) else (some false)) else (none)) else (some false)) else (some false)) else (some false)) else (some false)) else (some false)
set_option maxHeartbeats 8000000 in
set_option maxRecDepth 100000 in
theorem turn_Fits.calls (a0 : Int) (a1 : Int) (a2 : Int) (r : Bool) (w : World) (h : turn_Fits.f a0 a1 a2 = some r) :
  Calls Try.prog 75 #[.int .i64 a0, .int .i64 a1, .int .i64 a2] w fun e w' => e = .returned (.bool r) ∧ Drawn0 w w' := by
 have H : (if a0 ≥ 0 then (if a0 ≤ 3 then (if a1 ≥ 0 then (if a1 ≤ 6 then (if a2 ≥ 0 then (if 0 ≤ a1 then (if a2 < (shl .i64 1 a1) then (if a0 = 0 then (some (a2 == 0)) else (some true)) else (some false)) else (none)) else (some false)) else (some false)) else (some false)) else (some false)) else (some false)) = some r := h
 clear h
 by_cases c4 : a0 ≥ 0
 ·rw [if_pos c4] at H
  have c4b0 : decide (0 ≤ a0) = true := decide_eq_true c4; clear c4
  by_cases c5 : a0 ≤ 3
  ·rw [if_pos c5] at H
   have c5b0 : decide (a0 ≤ 3) = true := decide_eq_true c5; clear c5
   by_cases c6 : a1 ≥ 0
   ·rw [if_pos c6] at H
    have c6b0 : decide (0 ≤ a1) = true := decide_eq_true c6; clear c6
    by_cases c7 : a1 ≤ 6
    ·rw [if_pos c7] at H
     have c7b0 : decide (a1 ≤ 6) = true := decide_eq_true c7; clear c7
     by_cases c8 : a2 ≥ 0
     ·rw [if_pos c8] at H
      have c8b0 : decide (0 ≤ a2) = true := decide_eq_true c8; clear c8
      by_cases c9 : 0 ≤ a1
      ·rw [if_pos c9] at H
       have c9b0 := eq_true c9; have c9b1 : decide (0 ≤ a1) = true := decide_eq_true c9; clear c9
       obtain ⟨ji10, hji10⟩ : ∃ j_ : Int, (shl .i64 1 a1) = j_ := ⟨_, rfl⟩
       replace H : (if a2 < (ji10) then (if a0 = 0 then (some (a2 == 0)) else (some true)) else (some false)) = some r := by first | (rw [hji10] at H; exact H) | (simp only [hji10] at H ⊢; exact H)
       have hji10_ : (IntKind.i64.wrap (1 * 2 ^ min a1.toNat 64)) = ji10 := hji10; have hji10z : a1 ≤ 64 → (IntKind.i64.wrap (1 * 2 ^ a1.toNat)) = ji10 := shl_small hji10
       have hji10u : (IntKind.i64.wrap (2 ^ min a1.toNat 64)) = ji10 := by have h_ := hji10_; rw [Int.one_mul] at h_; exact h_
       have hji10v : a1 ≤ 64 → (IntKind.i64.wrap (2 ^ a1.toNat)) = ji10 := fun hle_ => by have h_ := hji10z hle_; rw [Int.one_mul] at h_; exact h_
       have hji10y : (wrap64 (1 * 2 ^ min a1.toNat 64)) = ji10 := (i64_w _).symm.trans hji10_
       have hji10x : a1 ≤ 64 → (wrap64 (1 * 2 ^ a1.toNat)) = ji10 := fun h_ => (i64_w _).symm.trans (hji10z h_)
       by_cases c11 : a2 < (ji10)
       ·rw [if_pos c11] at H
        have c11b0 : decide (a2 < (ji10)) = true := decide_eq_true c11; clear c11
        by_cases c12 : a0 = 0
        ·rw [if_pos c12] at H
         have c12b0 : (a0 == 0) = true := beq_iff_eq.mpr c12; have c12b1 : (a0 != 0) = false := bne_eq_false_iff_eq.mpr c12; clear c12; obtain rfl := Option.some.inj H
         go_enter Try.func75, Try.ntmps75
         go_wp2
         go_ret
         exact ⟨by first | rfl | (simp; done) | (simp only [← hji10] <;> (first | rfl | simp)) | (simp [*]; done), dwA⟩
        ·rw [if_neg c12] at H
         have c12b0 : (a0 == 0) = false := beq_eq_false_iff_ne.mpr c12; have c12b1 : (a0 != 0) = true := bne_iff_ne.mpr c12; obtain rfl := Option.some.inj H
         go_enter Try.func75, Try.ntmps75
         go_wp2
         go_ret
         exact ⟨by first | rfl | (simp; done) | (simp only [← hji10] <;> (first | rfl | simp)) | (simp [*]; done), dwA⟩
       ·rw [if_neg c11] at H
        have c11b0 : decide (a2 < (ji10)) = false := decide_eq_false c11; clear c11; obtain rfl := Option.some.inj H
        go_enter Try.func75, Try.ntmps75
        go_wp2
        go_ret
        exact ⟨by first | rfl | (simp; done) | (simp only [← hji10] <;> (first | rfl | simp)) | (simp [*]; done), dwA⟩
      ·rw [if_neg c9] at H
       exact absurd H (by simp)
     ·rw [if_neg c8] at H
      have c8b0 : decide (0 ≤ a2) = false := decide_eq_false c8; clear c8; obtain rfl := Option.some.inj H
      go_enter Try.func75, Try.ntmps75
      go_wp2
      go_ret
      exact ⟨eqA, dwA⟩
    ·rw [if_neg c7] at H
     have c7b0 : decide (a1 ≤ 6) = false := decide_eq_false c7; clear c7; obtain rfl := Option.some.inj H
     go_enter Try.func75, Try.ntmps75
     go_wp2
     go_ret
     exact ⟨eqA, dwA⟩
   ·rw [if_neg c6] at H
    have c6b0 : decide (0 ≤ a1) = false := decide_eq_false c6; clear c6; obtain rfl := Option.some.inj H
    go_enter Try.func75, Try.ntmps75
    go_wp2
    go_ret
    exact ⟨eqA, dwA⟩
  ·rw [if_neg c5] at H
   have c5b0 : decide (a0 ≤ 3) = false := decide_eq_false c5; clear c5; obtain rfl := Option.some.inj H
   go_enter Try.func75, Try.ntmps75
   go_wp2
   go_ret
   exact ⟨eqA, dwA⟩
 ·rw [if_neg c4] at H
  have c4b0 : decide (0 ≤ a0) = false := decide_eq_false c4; clear c4; obtain rfl := Option.some.inj H
  go_enter Try.func75, Try.ntmps75
  go_wp2
  go_ret
  exact ⟨eqA, dwA⟩
/-! ### circuit_turned: function 117 -/
def circuit_turned.f (a0 : Int) : Option (Int) := if a0 = 4 then (some 1) else (if a0 = 5 then (some 2) else (if a0 = 6 then (some 3) else (some 0)))
set_option maxHeartbeats 8000000 in
set_option maxRecDepth 100000 in
theorem circuit_turned.calls (a0 : Int) (r : Int) (w : World) (h : circuit_turned.f a0 = some r) :
  Calls Try.prog 117 #[.int .i64 a0] w fun e w' => e = .returned (.int .i64 r) ∧ Drawn0 w w' := by
 have H : (if a0 = 4 then (some 1) else (if a0 = 5 then (some 2) else (if a0 = 6 then (some 3) else (some 0)))) = some r := h
 clear h
 by_cases c2 : a0 = 4
 ·rw [if_pos c2] at H
  have c2b0 : (a0 == 4) = true := beq_iff_eq.mpr c2; have c2b1 : (a0 != 4) = false := bne_eq_false_iff_eq.mpr c2; clear c2; obtain rfl := Option.some.inj H
  go_enter Try.func117, Try.ntmps117
  go_wp2
  go_ret
  exact ⟨eqA, dwA⟩
 ·rw [if_neg c2] at H
  have c2b0 : (a0 == 4) = false := beq_eq_false_iff_ne.mpr c2; have c2b1 : (a0 != 4) = true := bne_iff_ne.mpr c2
  by_cases c3 : a0 = 5
  ·rw [if_pos c3] at H
   have c3b0 : (a0 == 5) = true := beq_iff_eq.mpr c3; have c3b1 : (a0 != 5) = false := bne_eq_false_iff_eq.mpr c3; clear c3; obtain rfl := Option.some.inj H
   go_enter Try.func117, Try.ntmps117
   go_wp2
   go_ret
   exact ⟨eqA, dwA⟩
  ·rw [if_neg c3] at H
   have c3b0 : (a0 == 5) = false := beq_eq_false_iff_ne.mpr c3; have c3b1 : (a0 != 5) = true := bne_iff_ne.mpr c3
   by_cases c4 : a0 = 6
   ·rw [if_pos c4] at H
    have c4b0 : (a0 == 6) = true := beq_iff_eq.mpr c4; have c4b1 : (a0 != 6) = false := bne_eq_false_iff_eq.mpr c4; clear c4; obtain rfl := Option.some.inj H
    go_enter Try.func117, Try.ntmps117
    go_wp2
    go_ret
    exact ⟨eqA, dwA⟩
   ·rw [if_neg c4] at H
    have c4b0 : (a0 == 6) = false := beq_eq_false_iff_ne.mpr c4; have c4b1 : (a0 != 6) = true := bne_iff_ne.mpr c4; obtain rfl := Option.some.inj H
    go_enter Try.func117, Try.ntmps117
    go_wp2
    go_ret
    exact ⟨eqA, dwA⟩
end Go.Proofs.Ythiiodgpdoljoaa.PLc
namespace Go.Proofs.Ythiiodgpdoljoaa.PLc
open Go.RowKit Go.Proofs.YthiiodgpdoljoaaW.PrintWords Go.Proofs.YthiiodgpdoljoaaW.PrintLast Go.Proofs.YthiiodgpdoljoaaW.PrintMore
attribute [local go_sem] max2_int min2_int max_two min_two max_three min_three max_four min_four   -- for this text's walks alone
set_option linter.unusedVariables false
set_option linter.unusedSimpArgs false
/-! ### circuit_needs: function 121 -/
mutual
def circuit_needs.j0 : Nat → Bool → Bool → Bool → Int → Bool → Option (Bool × Bool × Bool)
 | 0, _, _, _, _, _ => none
 | k + 1, x2, x3, x4, x5, x8 => if x8 = true then (some (true, true, x4)) else (if x5 = 8 then (some (true, x3, x4)) else (if x5 = 4 then (circuit_needs.j1 k x2 x3 x4 x5 (x5 == 4)) else (if x5 = 5 then (circuit_needs.j1 k x2 x3 x4 x5 (x5 == 5)) else (circuit_needs.j1 k x2 x3 x4 x5 (x5 == 6)))))
def circuit_needs.j1 : Nat → Bool → Bool → Bool → Int → Bool → Option (Bool × Bool × Bool)
 | 0, _, _, _, _, _ => none
 | k + 1, x2, x3, x4, x5, x13 => if x13 = true then (some (x2, true, true)) else (if x5 = 3 then (some (x2, true, x4)) else (some (x2, x3, x4)))
end
def circuit_needs.f (k : Nat) (a0 : Int) : Option (Bool × Bool × Bool) := if a0 = 7 then (some (true, true, true)) else (if a0 = 1 then (circuit_needs.j0 k false false false a0 (a0 == 1)) else (circuit_needs.j0 k false false false a0 (a0 == 2)))
theorem circuit_needs.mono_l : ∀ k, (∀ y0 y1 y2 y3 y4, LeO (circuit_needs.j0 k y0 y1 y2 y3 y4) (circuit_needs.j0 (k + 1) y0 y1 y2 y3 y4)) ∧ (∀ y0 y1 y2 y3 y4, LeO (circuit_needs.j1 k y0 y1 y2 y3 y4) (circuit_needs.j1 (k + 1) y0 y1 y2 y3 y4))
 | 0 => ⟨fun _ _ _ _ _ r h => by simp [circuit_needs.j0] at h, fun _ _ _ _ _ r h => by simp [circuit_needs.j1] at h⟩
 | k + 1 => by
  obtain ⟨ih0, ih1⟩ := circuit_needs.mono_l k
  refine ⟨?_, ?_⟩
  ·intro y0 y1 y2 y3 y4
   unfold circuit_needs.j0
   repeat' first
   | (with_reducible exact ih0 _ _ _ _ _)
   | (with_reducible exact ih1 _ _ _ _ _)
   | (with_reducible exact LeO.refl _)
   | (with_reducible exact LeO.none _)
   | (with_reducible refine LeO.ite ?_ ?_)
   | (with_reducible refine LeO.bind ?_ (fun _ => ?_))
   | exact ih0 _ _ _ _ _
   | exact ih1 _ _ _ _ _
   | exact LeO.none _
   | refine LeO.ite ?_ ?_
   | refine LeO.bind ?_ (fun _ => ?_)
  ·intro y0 y1 y2 y3 y4
   unfold circuit_needs.j1
   repeat' first
   | (with_reducible exact ih0 _ _ _ _ _)
   | (with_reducible exact ih1 _ _ _ _ _)
   | (with_reducible exact LeO.refl _)
   | (with_reducible exact LeO.none _)
   | (with_reducible refine LeO.ite ?_ ?_)
   | (with_reducible refine LeO.bind ?_ (fun _ => ?_))
   | exact ih0 _ _ _ _ _
   | exact ih1 _ _ _ _ _
   | exact LeO.none _
   | refine LeO.ite ?_ ?_
   | refine LeO.bind ?_ (fun _ => ?_)
theorem circuit_needs.mono : ∀ a0 k, LeO (circuit_needs.f k a0) (circuit_needs.f (k + 1) a0) := by
 intro a0 k
 obtain ⟨ih0, ih1⟩ := circuit_needs.mono_l k
 unfold circuit_needs.f
 repeat' first
   | (with_reducible exact ih0 _ _ _ _ _)
   | (with_reducible exact ih1 _ _ _ _ _)
   | (with_reducible exact LeO.refl _)
   | (with_reducible exact LeO.none _)
   | (with_reducible refine LeO.ite ?_ ?_)
   | (with_reducible refine LeO.bind ?_ (fun _ => ?_))
   | exact ih0 _ _ _ _ _
   | exact ih1 _ _ _ _ _
   | exact LeO.none _
   | refine LeO.ite ?_ ?_
   | refine LeO.bind ?_ (fun _ => ?_)
set_option maxHeartbeats 8000000 in
set_option maxRecDepth 100000 in
theorem circuit_needs.calls (k : Nat) (a0 : Int) (r1 : Bool) (r2 : Bool) (r3 : Bool) (w : World) (h : circuit_needs.f k a0 = some (r1, r2, r3)) :
  Calls Try.prog 121 #[.int .i64 a0] w fun e w' => e = .returned (.tuple #[.bool r1, .bool r2, .bool r3]) ∧ Drawn0 w w' := by
 have H : (if a0 = 7 then (some (true, true, true)) else (if a0 = 1 then (circuit_needs.j0 k false false false a0 (a0 == 1)) else (circuit_needs.j0 k false false false a0 (a0 == 2)))) = some (r1, r2, r3) := h
 clear h
 by_cases c2 : a0 = 7
 ·rw [if_pos c2] at H
  have c2b0 : (a0 == 7) = true := beq_iff_eq.mpr c2; have c2b1 : (a0 != 7) = false := bne_eq_false_iff_eq.mpr c2; clear c2
  simp only [Option.some.injEq, Prod.mk.injEq] at H
  obtain ⟨rfl, rfl, rfl⟩ := H
  go_enter Try.func121, Try.ntmps121
  go_wp2
  go_ret3
  exact ⟨eqA, dwA⟩
 ·rw [if_neg c2] at H
  have c2b0 : (a0 == 7) = false := beq_eq_false_iff_ne.mpr c2; have c2b1 : (a0 != 7) = true := bne_iff_ne.mpr c2; have HC3 := Aside0.mk H; clear H
  go_enter Try.func121, Try.ntmps121
  go_upto_if 8 with (fail)
  go_cut [8] (fun v8 wc => ∃ (kq : Nat) (x8_2 : Bool), v8 = .bool x8_2 ∧ Aside0 (circuit_needs.j0 kq false false false a0 x8_2 = some (r1, r2, r3)) ∧ Aside0 (kq ≤ k) ∧ Drawn0 w wc)
  case first =>
   have H := HC3.out; clear HC3
   by_cases c4 : a0 = 1
   ·rw [if_pos c4] at H
    have c4b0 : (a0 == 1) = true := beq_iff_eq.mpr c4; have c4b1 : (a0 != 1) = false := bne_eq_false_iff_eq.mpr c4; clear c4
    (first | rw [c4b0] | (simp only [i64_w, i32_w]; rw [c4b0]) | skip)
    have H' := Aside0.mk H; clear H
    go_wp2
    go_meet
    case rel => exact ⟨_, ((a0 == 1)), eqA, H', ⟨omA⟩, dwA⟩
   ·rw [if_neg c4] at H
    have c4b0 : (a0 == 1) = false := beq_eq_false_iff_ne.mpr c4; have c4b1 : (a0 != 1) = true := bne_iff_ne.mpr c4
    (first | rw [c4b0] | (simp only [i64_w, i32_w]; rw [c4b0]) | skip)
    have H' := Aside0.mk H; clear H
    go_wp2
    go_meet
    case rel => exact ⟨_, ((a0 == 2)), eqA, H', ⟨omA⟩, dwA⟩
  case rest =>
   clear HC3; (try clear c1); (try clear c2); (try clear c2b0); (try clear c2b1); (try clear p2); (try clear c4); (try clear c4b0); (try clear c4b1)
   obtain ⟨kq, x8_2, rfl, HA, HJ2, ⟨mc2, rfl⟩⟩ := hcut
   cases kq with
   | zero => exact absurd HA.out (by simp [circuit_needs.j0])
   | succ kj2 =>
    have H := HA.out; clear HA
    simp only [circuit_needs.j0] at H
    by_cases c5 : x8_2 = true
    ·subst c5
     have H1 : (some (true, true, false)) = some (r1, r2, r3) := by rw [if_pos rfl] at H; exact H
     clear H; have H := H1; clear H1
     simp only [Option.some.injEq, Prod.mk.injEq] at H
     obtain ⟨rfl, rfl, rfl⟩ := H
     go_wp2
     go_ret3
     exact ⟨eqA, dwA⟩
    ·replace c5 := Bool.eq_false_iff.mpr c5; subst c5
     have H1 : (if a0 = 8 then (some (true, false, false)) else (if a0 = 4 then (circuit_needs.j1 kj2 false false false a0 (a0 == 4)) else (if a0 = 5 then (circuit_needs.j1 kj2 false false false a0 (a0 == 5)) else (circuit_needs.j1 kj2 false false false a0 (a0 == 6))))) = some (r1, r2, r3) := by rw [if_neg (show ¬ (false = true) by decide)] at H; exact H
     clear H; have H := H1; clear H1
     by_cases c6 : a0 = 8
     ·rw [if_pos c6] at H
      have c6b0 : (a0 == 8) = true := beq_iff_eq.mpr c6; have c6b1 : (a0 != 8) = false := bne_eq_false_iff_eq.mpr c6; clear c6
      simp only [Option.some.injEq, Prod.mk.injEq] at H
      obtain ⟨rfl, rfl, rfl⟩ := H
      go_wp2
      go_ret3
      exact ⟨eqA, dwA⟩
     ·rw [if_neg c6] at H
      have c6b0 : (a0 == 8) = false := beq_eq_false_iff_ne.mpr c6; have c6b1 : (a0 != 8) = true := bne_iff_ne.mpr c6; have HC7 := Aside0.mk H; clear H
      go_upto_if 13 with (fail)
      go_cut [13] (fun v13 wc => ∃ (kq : Nat) (x13_6 : Bool), v13 = .bool x13_6 ∧ Aside0 (circuit_needs.j1 kq false false false a0 x13_6 = some (r1, r2, r3)) ∧ Aside0 (kq ≤ kj2) ∧ Drawn0 w wc)
      case first =>
       have H := HC7.out; clear HC7
       by_cases c8 : a0 = 4
       ·rw [if_pos c8] at H
        have c8b0 : (a0 == 4) = true := beq_iff_eq.mpr c8; have c8b1 : (a0 != 4) = false := bne_eq_false_iff_eq.mpr c8; clear c8
        (first | rw [c8b0] | (simp only [i64_w, i32_w]; rw [c8b0]) | skip)
        have H' := Aside0.mk H; clear H
        go_wp2
        go_meet
        case rel => exact ⟨_, ((a0 == 4)), eqA, H', ⟨by have := HJ2.out; first | omega | exact Nat.le_refl _⟩, dwA⟩
       ·rw [if_neg c8] at H
        have c8b0 : (a0 == 4) = false := beq_eq_false_iff_ne.mpr c8; have c8b1 : (a0 != 4) = true := bne_iff_ne.mpr c8
        (first | rw [c8b0] | (simp only [i64_w, i32_w]; rw [c8b0]) | skip)
        by_cases c9 : a0 = 5
        ·rw [if_pos c9] at H
         have c9b0 : (a0 == 5) = true := beq_iff_eq.mpr c9; have c9b1 : (a0 != 5) = false := bne_eq_false_iff_eq.mpr c9; clear c9; have H' := Aside0.mk H; clear H
         go_wp2
         go_meet
         case rel => exact ⟨_, ((a0 == 5)), eqA, H', ⟨by have := HJ2.out; first | omega | exact Nat.le_refl _⟩, dwA⟩
        ·rw [if_neg c9] at H
         have c9b0 : (a0 == 5) = false := beq_eq_false_iff_ne.mpr c9; have c9b1 : (a0 != 5) = true := bne_iff_ne.mpr c9; have H' := Aside0.mk H; clear H
         go_wp2
         go_meet
         case rel => exact ⟨_, ((a0 == 6)), eqA, H', ⟨by have := HJ2.out; first | omega | exact Nat.le_refl _⟩, dwA⟩
      case rest =>
       clear HC7; (try clear c1); (try clear c2); (try clear c2b0); (try clear c2b1); (try clear p2); (try clear c4); (try clear c4b0); (try clear c4b1); (try clear c5); (try clear c6); (try clear c6b0); (try clear c6b1); (try clear c8); (try clear c8b0); (try clear c8b1); (try clear c9); (try clear c9b0); (try clear c9b1); (try clear p2)
       obtain ⟨kq, x13_6, rfl, HA, HJ6, ⟨mc6, rfl⟩⟩ := hcut
       cases kq with
       | zero => exact absurd HA.out (by simp [circuit_needs.j1])
       | succ kj6 =>
        have H := HA.out; clear HA
        simp only [circuit_needs.j1] at H
        by_cases c10 : x13_6 = true
        ·subst c10
         have H1 : (some (false, true, true)) = some (r1, r2, r3) := by rw [if_pos rfl] at H; exact H
         clear H; have H := H1; clear H1
         simp only [Option.some.injEq, Prod.mk.injEq] at H
         obtain ⟨rfl, rfl, rfl⟩ := H
         go_wp2
         go_ret3
         exact ⟨eqA, dwA⟩
        ·replace c10 := Bool.eq_false_iff.mpr c10; subst c10
         have H1 : (if a0 = 3 then (some (false, true, false)) else (some (false, false, false))) = some (r1, r2, r3) := by rw [if_neg (show ¬ (false = true) by decide)] at H; exact H
         clear H; have H := H1; clear H1
         by_cases c11 : a0 = 3
         ·rw [if_pos c11] at H
          have c11b0 : (a0 == 3) = true := beq_iff_eq.mpr c11; have c11b1 : (a0 != 3) = false := bne_eq_false_iff_eq.mpr c11; clear c11
          simp only [Option.some.injEq, Prod.mk.injEq] at H
          obtain ⟨rfl, rfl, rfl⟩ := H
          go_wp2
          go_ret3
          exact ⟨eqA, dwA⟩
         ·rw [if_neg c11] at H
          have c11b0 : (a0 == 3) = false := beq_eq_false_iff_ne.mpr c11; have c11b1 : (a0 != 3) = true := bne_iff_ne.mpr c11
          simp only [Option.some.injEq, Prod.mk.injEq] at H
          obtain ⟨rfl, rfl, rfl⟩ := H
          go_wp2
          go_ret3
          exact ⟨eqA, dwA⟩
end Go.Proofs.Ythiiodgpdoljoaa.PLc
namespace Go.Proofs.Ythiiodgpdoljoaa.PLc
open Go.RowKit Go.Proofs.YthiiodgpdoljoaaW.PrintWords Go.Proofs.YthiiodgpdoljoaaW.PrintLast Go.Proofs.YthiiodgpdoljoaaW.PrintMore
attribute [local go_sem] max2_int min2_int max_two min_two max_three min_three max_four min_four   -- for this text's walks alone
set_option linter.unusedVariables false
set_option linter.unusedSimpArgs false
/-! ### circuit_gate: function 94 -/
mutual
def circuit_gate.j3 : Nat → Int → Bool → Int → Int → Int → Int → Int → List (S105) → Int → Int → Int → Int → Int → Option (Int × Int)
 | 0, _, _, _, _, _, _, _, _, _, _, _, _, _ => none
 | k + 1, x2, x9, x102000, x102001, x102002, x102003, x102004, x102005, x103000, x103001, x103002, x103003, x103004 => if x9 = true then (circuit_gate.j4 k (wrap64 (x2 + 1)) x102000 x102001 x102002 x102003 x102004 x102005 x103000 x103001 x103002 x103003 x103004) else (circuit_gate.j4 k x2 x102000 x102001 x102002 x102003 x102004 x102005 x103000 x103001 x103002 x103003 x103004)
def circuit_gate.j4 : Nat → Int → Int → Int → Int → Int → Int → List (S105) → Int → Int → Int → Int → Int → Option (Int × Int)
 | 0, _, _, _, _, _, _, _, _, _, _, _, _ => none
 | k + 1, x2, x102000, x102001, x102002, x102003, x102004, x102005, x103000, x103001, x103002, x103003, x103004 => if x103000 = 7 then (if 0 ≤ x102002 then (if (wrap64 (x2 + 1)) > (shl .i64 1 x102002) then (some (0, 2)) else (some (wrap64 (x2 + 1), 0))) else (none)) else (if 0 ≤ x102002 then (if x2 > (shl .i64 1 x102002) then (some (0, 2)) else (some (x2, 0))) else (none))
def circuit_gate.j0 : Nat → Int → Bool → Bool → Int → Bool → Int → Int → Int → Int → Int → List (S105) → Int → Int → Int → Int → Int → Option (Int × Int)
 | 0, _, _, _, _, _, _, _, _, _, _, _, _, _, _, _, _ => none
 | k + 1, x2, x8, x9, x11, x22, x102000, x102001, x102002, x102003, x102004, x102005, x103000, x103001, x103002, x103003, x103004 => if x22 = true then (some (0, 3)) else (if x103002 < 0 then (circuit_gate.j1 k x2 x9 x11 true x102000 x102001 x102002 x102003 x102004 x102005 x103000 x103001 x103002 x103003 x103004) else (if x103002 ≥ x2 then (circuit_gate.j1 k x2 x9 x11 true x102000 x102001 x102002 x102003 x102004 x102005 x103000 x103001 x103002 x103003 x103004) else (if x103003 < 0 then (circuit_gate.j1 k x2 x9 x11 true x102000 x102001 x102002 x102003 x102004 x102005 x103000 x103001 x103002 x103003 x103004) else (if x8 = true then (circuit_gate.j1 k x2 x9 x11 (decide (x103003 ≥ x2)) x102000 x102001 x102002 x102003 x102004 x102005 x103000 x103001 x103002 x103003 x103004) else (circuit_gate.j1 k x2 x9 x11 false x102000 x102001 x102002 x102003 x102004 x102005 x103000 x103001 x103002 x103003 x103004)))))
def circuit_gate.j1 : Nat → Int → Bool → Int → Bool → Int → Int → Int → Int → Int → List (S105) → Int → Int → Int → Int → Int → Option (Int × Int)
 | 0, _, _, _, _, _, _, _, _, _, _, _, _, _, _, _ => none
 | k + 1, x2, x9, x11, x58, x102000, x102001, x102002, x102003, x102004, x102005, x103000, x103001, x103002, x103003, x103004 => if x58 = true then (some (0, 4)) else (if x11 = 0 then (circuit_gate.j2 k x2 x9 false x102000 x102001 x102002 x102003 x102004 x102005 x103000 x103001 x103002 x103003 x103004) else ((turn_Fits.f x11 x102000 x103004).bind fun t107 => (circuit_gate.j2 k x2 x9 (!t107) x102000 x102001 x102002 x102003 x102004 x102005 x103000 x103001 x103002 x103003 x103004)))
def circuit_gate.j2 : Nat → Int → Bool → Bool → Int → Int → Int → Int → Int → List (S105) → Int → Int → Int → Int → Int → Option (Int × Int)
 | 0, _, _, _, _, _, _, _, _, _, _, _, _, _, _ => none
 | k + 1, x2, x9, x82, x102000, x102001, x102002, x102003, x102004, x102005, x103000, x103001, x103002, x103003, x103004 => if x82 = true then (some (0, 1)) else (if x9 = true then (if x103001 = x2 then (if x103000 = 7 then (if x103004 = (wrap64 (x2 + 1)) then (circuit_gate.j3 k x2 x9 x102000 x102001 x102002 x102003 x102004 x102005 x103000 x103001 x103002 x103003 x103004) else (some (0, 3))) else (circuit_gate.j3 k x2 x9 x102000 x102001 x102002 x102003 x102004 x102005 x103000 x103001 x103002 x103003 x103004)) else (some (0, 3))) else (if x103000 = 7 then (if x103004 = (wrap64 (x2 + 1)) then (circuit_gate.j3 k x2 x9 x102000 x102001 x102002 x102003 x102004 x102005 x103000 x103001 x103002 x103003 x103004) else (some (0, 3))) else (circuit_gate.j3 k x2 x9 x102000 x102001 x102002 x102003 x102004 x102005 x103000 x103001 x103002 x103003 x103004)))
end
def circuit_gate.f (k : Nat) (a0_0 : Int) (a0_1 : Int) (a0_2 : Int) (a0_3 : Int) (a0_4 : Int) (l0_5 : List (S105)) (a1_0 : Int) (a1_1 : Int) (a1_2 : Int) (a1_3 : Int) (a1_4 : Int) (a2 : Int) : Option (Int × Int) := (circuit_needs.f k a1_0).bind fun bt103 => ((circuit_turned.f a1_0).bind fun t106 => (if a1_0 < 1 then (circuit_gate.j0 k a2 bt103.1 bt103.2.1 t106 true a0_0 a0_1 a0_2 a0_3 a0_4 l0_5 a1_0 a1_1 a1_2 a1_3 a1_4) else (if a1_0 > 8 then (circuit_gate.j0 k a2 bt103.1 bt103.2.1 t106 true a0_0 a0_1 a0_2 a0_3 a0_4 l0_5 a1_0 a1_1 a1_2 a1_3 a1_4) else (if bt103.1 = true then (if bt103.2.1 = true then (if bt103.2.2 = true then (circuit_gate.j0 k a2 bt103.1 bt103.2.1 t106 false a0_0 a0_1 a0_2 a0_3 a0_4 l0_5 a1_0 a1_1 a1_2 a1_3 a1_4) else (circuit_gate.j0 k a2 bt103.1 bt103.2.1 t106 (a1_4 != 0) a0_0 a0_1 a0_2 a0_3 a0_4 l0_5 a1_0 a1_1 a1_2 a1_3 a1_4)) else (if a1_1 = 0 then (if bt103.2.2 = true then (circuit_gate.j0 k a2 bt103.1 bt103.2.1 t106 false a0_0 a0_1 a0_2 a0_3 a0_4 l0_5 a1_0 a1_1 a1_2 a1_3 a1_4) else (circuit_gate.j0 k a2 bt103.1 bt103.2.1 t106 (a1_4 != 0) a0_0 a0_1 a0_2 a0_3 a0_4 l0_5 a1_0 a1_1 a1_2 a1_3 a1_4)) else (circuit_gate.j0 k a2 bt103.1 bt103.2.1 t106 true a0_0 a0_1 a0_2 a0_3 a0_4 l0_5 a1_0 a1_1 a1_2 a1_3 a1_4))) else (if a1_3 = 0 then (if bt103.2.1 = true then (if bt103.2.2 = true then (circuit_gate.j0 k a2 bt103.1 bt103.2.1 t106 false a0_0 a0_1 a0_2 a0_3 a0_4 l0_5 a1_0 a1_1 a1_2 a1_3 a1_4) else (circuit_gate.j0 k a2 bt103.1 bt103.2.1 t106 (a1_4 != 0) a0_0 a0_1 a0_2 a0_3 a0_4 l0_5 a1_0 a1_1 a1_2 a1_3 a1_4)) else (if a1_1 = 0 then (if bt103.2.2 = true then (circuit_gate.j0 k a2 bt103.1 bt103.2.1 t106 false a0_0 a0_1 a0_2 a0_3 a0_4 l0_5 a1_0 a1_1 a1_2 a1_3 a1_4) else (circuit_gate.j0 k a2 bt103.1 bt103.2.1 t106 (a1_4 != 0) a0_0 a0_1 a0_2 a0_3 a0_4 l0_5 a1_0 a1_1 a1_2 a1_3 a1_4)) else (circuit_gate.j0 k a2 bt103.1 bt103.2.1 t106 true a0_0 a0_1 a0_2 a0_3 a0_4 l0_5 a1_0 a1_1 a1_2 a1_3 a1_4))) else (circuit_gate.j0 k a2 bt103.1 bt103.2.1 t106 true a0_0 a0_1 a0_2 a0_3 a0_4 l0_5 a1_0 a1_1 a1_2 a1_3 a1_4))))))
theorem circuit_gate.mono_l : ∀ k, (∀ y0 y1 y2 y3 y4 y5 y6 y7 y8 y9 y10 y11 y12, LeO (circuit_gate.j3 k y0 y1 y2 y3 y4 y5 y6 y7 y8 y9 y10 y11 y12) (circuit_gate.j3 (k + 1) y0 y1 y2 y3 y4 y5 y6 y7 y8 y9 y10 y11 y12)) ∧ (∀ y0 y1 y2 y3 y4 y5 y6 y7 y8 y9 y10 y11, LeO (circuit_gate.j4 k y0 y1 y2 y3 y4 y5 y6 y7 y8 y9 y10 y11) (circuit_gate.j4 (k + 1) y0 y1 y2 y3 y4 y5 y6 y7 y8 y9 y10 y11)) ∧ (∀ y0 y1 y2 y3 y4 y5 y6 y7 y8 y9 y10 y11 y12 y13 y14 y15, LeO (circuit_gate.j0 k y0 y1 y2 y3 y4 y5 y6 y7 y8 y9 y10 y11 y12 y13 y14 y15) (circuit_gate.j0 (k + 1) y0 y1 y2 y3 y4 y5 y6 y7 y8 y9 y10 y11 y12 y13 y14 y15)) ∧ (∀ y0 y1 y2 y3 y4 y5 y6 y7 y8 y9 y10 y11 y12 y13 y14, LeO (circuit_gate.j1 k y0 y1 y2 y3 y4 y5 y6 y7 y8 y9 y10 y11 y12 y13 y14) (circuit_gate.j1 (k + 1) y0 y1 y2 y3 y4 y5 y6 y7 y8 y9 y10 y11 y12 y13 y14)) ∧ (∀ y0 y1 y2 y3 y4 y5 y6 y7 y8 y9 y10 y11 y12 y13, LeO (circuit_gate.j2 k y0 y1 y2 y3 y4 y5 y6 y7 y8 y9 y10 y11 y12 y13) (circuit_gate.j2 (k + 1) y0 y1 y2 y3 y4 y5 y6 y7 y8 y9 y10 y11 y12 y13))
 | 0 => ⟨fun _ _ _ _ _ _ _ _ _ _ _ _ _ r h => by simp [circuit_gate.j3] at h, fun _ _ _ _ _ _ _ _ _ _ _ _ r h => by simp [circuit_gate.j4] at h, fun _ _ _ _ _ _ _ _ _ _ _ _ _ _ _ _ r h => by simp [circuit_gate.j0] at h, fun _ _ _ _ _ _ _ _ _ _ _ _ _ _ _ r h => by simp [circuit_gate.j1] at h, fun _ _ _ _ _ _ _ _ _ _ _ _ _ _ r h => by simp [circuit_gate.j2] at h⟩
 | k + 1 => by
  obtain ⟨ih0, ih1, ih2, ih3, ih4⟩ := circuit_gate.mono_l k
  refine ⟨?_, ?_, ?_, ?_, ?_⟩
  ·intro y0 y1 y2 y3 y4 y5 y6 y7 y8 y9 y10 y11 y12
   unfold circuit_gate.j3
   repeat' first
   | (with_reducible exact ih0 _ _ _ _ _ _ _ _ _ _ _ _ _)
   | (with_reducible exact ih1 _ _ _ _ _ _ _ _ _ _ _ _)
   | (with_reducible exact ih2 _ _ _ _ _ _ _ _ _ _ _ _ _ _ _ _)
   | (with_reducible exact ih3 _ _ _ _ _ _ _ _ _ _ _ _ _ _ _)
   | (with_reducible exact ih4 _ _ _ _ _ _ _ _ _ _ _ _ _ _)
   | (with_reducible exact circuit_needs.mono _ _)
   | (with_reducible exact LeO.refl _)
   | (with_reducible exact LeO.none _)
   | (with_reducible refine LeO.ite ?_ ?_)
   | (with_reducible refine LeO.bind ?_ (fun _ => ?_))
   | exact ih0 _ _ _ _ _ _ _ _ _ _ _ _ _
   | exact ih1 _ _ _ _ _ _ _ _ _ _ _ _
   | exact ih2 _ _ _ _ _ _ _ _ _ _ _ _ _ _ _ _
   | exact ih3 _ _ _ _ _ _ _ _ _ _ _ _ _ _ _
   | exact ih4 _ _ _ _ _ _ _ _ _ _ _ _ _ _
   | exact circuit_needs.mono _ _
   | exact LeO.none _
   | refine LeO.ite ?_ ?_
   | refine LeO.bind ?_ (fun _ => ?_)
  ·intro y0 y1 y2 y3 y4 y5 y6 y7 y8 y9 y10 y11
   unfold circuit_gate.j4
   repeat' first
   | (with_reducible exact ih0 _ _ _ _ _ _ _ _ _ _ _ _ _)
   | (with_reducible exact ih1 _ _ _ _ _ _ _ _ _ _ _ _)
   | (with_reducible exact ih2 _ _ _ _ _ _ _ _ _ _ _ _ _ _ _ _)
   | (with_reducible exact ih3 _ _ _ _ _ _ _ _ _ _ _ _ _ _ _)
   | (with_reducible exact ih4 _ _ _ _ _ _ _ _ _ _ _ _ _ _)
   | (with_reducible exact circuit_needs.mono _ _)
   | (with_reducible exact LeO.refl _)
   | (with_reducible exact LeO.none _)
   | (with_reducible refine LeO.ite ?_ ?_)
   | (with_reducible refine LeO.bind ?_ (fun _ => ?_))
   | exact ih0 _ _ _ _ _ _ _ _ _ _ _ _ _
   | exact ih1 _ _ _ _ _ _ _ _ _ _ _ _
   | exact ih2 _ _ _ _ _ _ _ _ _ _ _ _ _ _ _ _
   | exact ih3 _ _ _ _ _ _ _ _ _ _ _ _ _ _ _
   | exact ih4 _ _ _ _ _ _ _ _ _ _ _ _ _ _
   | exact circuit_needs.mono _ _
   | exact LeO.none _
   | refine LeO.ite ?_ ?_
   | refine LeO.bind ?_ (fun _ => ?_)
  ·intro y0 y1 y2 y3 y4 y5 y6 y7 y8 y9 y10 y11 y12 y13 y14 y15
   unfold circuit_gate.j0
   repeat' first
   | (with_reducible exact ih0 _ _ _ _ _ _ _ _ _ _ _ _ _)
   | (with_reducible exact ih1 _ _ _ _ _ _ _ _ _ _ _ _)
   | (with_reducible exact ih2 _ _ _ _ _ _ _ _ _ _ _ _ _ _ _ _)
   | (with_reducible exact ih3 _ _ _ _ _ _ _ _ _ _ _ _ _ _ _)
   | (with_reducible exact ih4 _ _ _ _ _ _ _ _ _ _ _ _ _ _)
   | (with_reducible exact circuit_needs.mono _ _)
   | (with_reducible exact LeO.refl _)
   | (with_reducible exact LeO.none _)
   | (with_reducible refine LeO.ite ?_ ?_)
   | (with_reducible refine LeO.bind ?_ (fun _ => ?_))
   | exact ih0 _ _ _ _ _ _ _ _ _ _ _ _ _
   | exact ih1 _ _ _ _ _ _ _ _ _ _ _ _
   | exact ih2 _ _ _ _ _ _ _ _ _ _ _ _ _ _ _ _
   | exact ih3 _ _ _ _ _ _ _ _ _ _ _ _ _ _ _
   | exact ih4 _ _ _ _ _ _ _ _ _ _ _ _ _ _
   | exact circuit_needs.mono _ _
   | exact LeO.none _
   | refine LeO.ite ?_ ?_
   | refine LeO.bind ?_ (fun _ => ?_)
  ·intro y0 y1 y2 y3 y4 y5 y6 y7 y8 y9 y10 y11 y12 y13 y14
   unfold circuit_gate.j1
   repeat' first
   | (with_reducible exact ih0 _ _ _ _ _ _ _ _ _ _ _ _ _)
   | (with_reducible exact ih1 _ _ _ _ _ _ _ _ _ _ _ _)
   | (with_reducible exact ih2 _ _ _ _ _ _ _ _ _ _ _ _ _ _ _ _)
   | (with_reducible exact ih3 _ _ _ _ _ _ _ _ _ _ _ _ _ _ _)
   | (with_reducible exact ih4 _ _ _ _ _ _ _ _ _ _ _ _ _ _)
   | (with_reducible exact circuit_needs.mono _ _)
   | (with_reducible exact LeO.refl _)
   | (with_reducible exact LeO.none _)
   | (with_reducible refine LeO.ite ?_ ?_)
   | (with_reducible refine LeO.bind ?_ (fun _ => ?_))
   | exact ih0 _ _ _ _ _ _ _ _ _ _ _ _ _
   | exact ih1 _ _ _ _ _ _ _ _ _ _ _ _
   | exact ih2 _ _ _ _ _ _ _ _ _ _ _ _ _ _ _ _
   | exact ih3 _ _ _ _ _ _ _ _ _ _ _ _ _ _ _
   | exact ih4 _ _ _ _ _ _ _ _ _ _ _ _ _ _
   | exact circuit_needs.mono _ _
   | exact LeO.none _
   | refine LeO.ite ?_ ?_
   | refine LeO.bind ?_ (fun _ => ?_)
  ·intro y0 y1 y2 y3 y4 y5 y6 y7 y8 y9 y10 y11 y12 y13
   unfold circuit_gate.j2
   repeat' first
   | (with_reducible exact ih0 _ _ _ _ _ _ _ _ _ _ _ _ _)
   | (with_reducible exact ih1 _ _ _ _ _ _ _ _ _ _ _ _)
   | (with_reducible exact ih2 _ _ _ _ _ _ _ _ _ _ _ _ _ _ _ _)
   | (with_reducible exact ih3 _ _ _ _ _ _ _ _ _ _ _ _ _ _ _)
   | (with_reducible exact ih4 _ _ _ _ _ _ _ _ _ _ _ _ _ _)
   | (with_reducible exact circuit_needs.mono _ _)
   | (with_reducible exact LeO.refl _)
   | (with_reducible exact LeO.none _)
   | (with_reducible refine LeO.ite ?_ ?_)
   | (with_reducible refine LeO.bind ?_ (fun _ => ?_))
   | exact ih0 _ _ _ _ _ _ _ _ _ _ _ _ _
   | exact ih1 _ _ _ _ _ _ _ _ _ _ _ _
   | exact ih2 _ _ _ _ _ _ _ _ _ _ _ _ _ _ _ _
   | exact ih3 _ _ _ _ _ _ _ _ _ _ _ _ _ _ _
   | exact ih4 _ _ _ _ _ _ _ _ _ _ _ _ _ _
   | exact circuit_needs.mono _ _
   | exact LeO.none _
   | refine LeO.ite ?_ ?_
   | refine LeO.bind ?_ (fun _ => ?_)
theorem circuit_gate.mono : ∀ a0 a1 a2 a3 a4 a5 a6 a7 a8 a9 a10 a11 k, LeO (circuit_gate.f k a0 a1 a2 a3 a4 a5 a6 a7 a8 a9 a10 a11) (circuit_gate.f (k + 1) a0 a1 a2 a3 a4 a5 a6 a7 a8 a9 a10 a11) := by
 intro a0 a1 a2 a3 a4 a5 a6 a7 a8 a9 a10 a11 k
 obtain ⟨ih0, ih1, ih2, ih3, ih4⟩ := circuit_gate.mono_l k
 unfold circuit_gate.f
 repeat' first
   | (with_reducible exact ih0 _ _ _ _ _ _ _ _ _ _ _ _ _)
   | (with_reducible exact ih1 _ _ _ _ _ _ _ _ _ _ _ _)
   | (with_reducible exact ih2 _ _ _ _ _ _ _ _ _ _ _ _ _ _ _ _)
   | (with_reducible exact ih3 _ _ _ _ _ _ _ _ _ _ _ _ _ _ _)
   | (with_reducible exact ih4 _ _ _ _ _ _ _ _ _ _ _ _ _ _)
   | (with_reducible exact circuit_needs.mono _ _)
   | (with_reducible exact LeO.refl _)
   | (with_reducible exact LeO.none _)
   | (with_reducible refine LeO.ite ?_ ?_)
   | (with_reducible refine LeO.bind ?_ (fun _ => ?_))
   | exact ih0 _ _ _ _ _ _ _ _ _ _ _ _ _
   | exact ih1 _ _ _ _ _ _ _ _ _ _ _ _
   | exact ih2 _ _ _ _ _ _ _ _ _ _ _ _ _ _ _ _
   | exact ih3 _ _ _ _ _ _ _ _ _ _ _ _ _ _ _
   | exact ih4 _ _ _ _ _ _ _ _ _ _ _ _ _ _
   | exact circuit_needs.mono _ _
   | exact LeO.none _
   | refine LeO.ite ?_ ?_
   | refine LeO.bind ?_ (fun _ => ?_)
set_option maxHeartbeats 8000000 in
set_option maxRecDepth 100000 in
theorem circuit_gate.calls (k : Nat) (a0_0 : Int) (a0_1 : Int) (a0_2 : Int) (a0_3 : Int) (a0_4 : Int) (A0_5 : Option Addr) (c0_5 : Nat) (l0_5 : List (S105)) (a1_0 : Int) (a1_1 : Int) (a1_2 : Int) (a1_3 : Int) (a1_4 : Int) (a2 : Int) (r1 : Int) (r2 : Int) (w : World) (hr0_5 : Kd.C k105 w A0_5 l0_5.length l0_5) (hc0_5 : l0_5.length ≤ c0_5) (h : circuit_gate.f k a0_0 a0_1 a0_2 a0_3 a0_4 l0_5 a1_0 a1_1 a1_2 a1_3 a1_4 a2 = some (r1, r2)) :
  Calls Try.prog 94 #[.agg #[.int .i64 a0_0, .int .i64 a0_1, .int .i64 a0_2, .int .i64 a0_3, .int .i64 a0_4, .slice A0_5 l0_5.length c0_5], .agg #[.int .i64 a1_0, .int .i64 a1_1, .int .i64 a1_2, .int .i64 a1_3, .int .i64 a1_4], .int .i64 a2] w fun e w' => e = .returned (.tuple #[.int .i64 r1, .int .i64 r2]) ∧ Below w.heap.size w w' := by
 have hu24 := Try.underlying24; have hu105 := Try.underlying105; have HR0_5 := Aside0.mk hr0_5; have HC0_5 := Aside0.mk hc0_5; clear hr0_5 hc0_5; have HB := Aside0.mk (Below.refl w.heap.size w)
 have H : ((circuit_needs.f k a1_0).bind fun bt103 => ((circuit_turned.f a1_0).bind fun t106 => (if a1_0 < 1 then (circuit_gate.j0 k a2 bt103.1 bt103.2.1 t106 true a0_0 a0_1 a0_2 a0_3 a0_4 l0_5 a1_0 a1_1 a1_2 a1_3 a1_4) else (if a1_0 > 8 then (circuit_gate.j0 k a2 bt103.1 bt103.2.1 t106 true a0_0 a0_1 a0_2 a0_3 a0_4 l0_5 a1_0 a1_1 a1_2 a1_3 a1_4) else (if bt103.1 = true then (if bt103.2.1 = true then (if bt103.2.2 = true then (circuit_gate.j0 k a2 bt103.1 bt103.2.1 t106 false a0_0 a0_1 a0_2 a0_3 a0_4 l0_5 a1_0 a1_1 a1_2 a1_3 a1_4) else (circuit_gate.j0 k a2 bt103.1 bt103.2.1 t106 (a1_4 != 0) a0_0 a0_1 a0_2 a0_3 a0_4 l0_5 a1_0 a1_1 a1_2 a1_3 a1_4)) else (if a1_1 = 0 then (if bt103.2.2 = true then (circuit_gate.j0 k a2 bt103.1 bt103.2.1 t106 false a0_0 a0_1 a0_2 a0_3 a0_4 l0_5 a1_0 a1_1 a1_2 a1_3 a1_4) else (circuit_gate.j0 k a2 bt103.1 bt103.2.1 t106 (a1_4 != 0) a0_0 a0_1 a0_2 a0_3 a0_4 l0_5 a1_0 a1_1 a1_2 a1_3 a1_4)) else (circuit_gate.j0 k a2 bt103.1 bt103.2.1 t106 true a0_0 a0_1 a0_2 a0_3 a0_4 l0_5 a1_0 a1_1 a1_2 a1_3 a1_4))) else (if a1_3 = 0 then (if bt103.2.1 = true then (if bt103.2.2 = true then (circuit_gate.j0 k a2 bt103.1 bt103.2.1 t106 false a0_0 a0_1 a0_2 a0_3 a0_4 l0_5 a1_0 a1_1 a1_2 a1_3 a1_4) else (circuit_gate.j0 k a2 bt103.1 bt103.2.1 t106 (a1_4 != 0) a0_0 a0_1 a0_2 a0_3 a0_4 l0_5 a1_0 a1_1 a1_2 a1_3 a1_4)) else (if a1_1 = 0 then (if bt103.2.2 = true then (circuit_gate.j0 k a2 bt103.1 bt103.2.1 t106 false a0_0 a0_1 a0_2 a0_3 a0_4 l0_5 a1_0 a1_1 a1_2 a1_3 a1_4) else (circuit_gate.j0 k a2 bt103.1 bt103.2.1 t106 (a1_4 != 0) a0_0 a0_1 a0_2 a0_3 a0_4 l0_5 a1_0 a1_1 a1_2 a1_3 a1_4)) else (circuit_gate.j0 k a2 bt103.1 bt103.2.1 t106 true a0_0 a0_1 a0_2 a0_3 a0_4 l0_5 a1_0 a1_1 a1_2 a1_3 a1_4))) else (circuit_gate.j0 k a2 bt103.1 bt103.2.1 t106 true a0_0 a0_1 a0_2 a0_3 a0_4 l0_5 a1_0 a1_1 a1_2 a1_3 a1_4))))))) = some (r1, r2) := h
 clear h; replace H := Option.bind_eq_some_iff.mp H
 obtain ⟨⟨t103, t104, t105⟩, A40, H⟩ := H
 replace H : ((circuit_turned.f a1_0).bind fun t106 => (if a1_0 < 1 then (circuit_gate.j0 k a2 t103 t104 t106 true a0_0 a0_1 a0_2 a0_3 a0_4 l0_5 a1_0 a1_1 a1_2 a1_3 a1_4) else (if a1_0 > 8 then (circuit_gate.j0 k a2 t103 t104 t106 true a0_0 a0_1 a0_2 a0_3 a0_4 l0_5 a1_0 a1_1 a1_2 a1_3 a1_4) else (if t103 = true then (if t104 = true then (if t105 = true then (circuit_gate.j0 k a2 t103 t104 t106 false a0_0 a0_1 a0_2 a0_3 a0_4 l0_5 a1_0 a1_1 a1_2 a1_3 a1_4) else (circuit_gate.j0 k a2 t103 t104 t106 (a1_4 != 0) a0_0 a0_1 a0_2 a0_3 a0_4 l0_5 a1_0 a1_1 a1_2 a1_3 a1_4)) else (if a1_1 = 0 then (if t105 = true then (circuit_gate.j0 k a2 t103 t104 t106 false a0_0 a0_1 a0_2 a0_3 a0_4 l0_5 a1_0 a1_1 a1_2 a1_3 a1_4) else (circuit_gate.j0 k a2 t103 t104 t106 (a1_4 != 0) a0_0 a0_1 a0_2 a0_3 a0_4 l0_5 a1_0 a1_1 a1_2 a1_3 a1_4)) else (circuit_gate.j0 k a2 t103 t104 t106 true a0_0 a0_1 a0_2 a0_3 a0_4 l0_5 a1_0 a1_1 a1_2 a1_3 a1_4))) else (if a1_3 = 0 then (if t104 = true then (if t105 = true then (circuit_gate.j0 k a2 t103 t104 t106 false a0_0 a0_1 a0_2 a0_3 a0_4 l0_5 a1_0 a1_1 a1_2 a1_3 a1_4) else (circuit_gate.j0 k a2 t103 t104 t106 (a1_4 != 0) a0_0 a0_1 a0_2 a0_3 a0_4 l0_5 a1_0 a1_1 a1_2 a1_3 a1_4)) else (if a1_1 = 0 then (if t105 = true then (circuit_gate.j0 k a2 t103 t104 t106 false a0_0 a0_1 a0_2 a0_3 a0_4 l0_5 a1_0 a1_1 a1_2 a1_3 a1_4) else (circuit_gate.j0 k a2 t103 t104 t106 (a1_4 != 0) a0_0 a0_1 a0_2 a0_3 a0_4 l0_5 a1_0 a1_1 a1_2 a1_3 a1_4)) else (circuit_gate.j0 k a2 t103 t104 t106 true a0_0 a0_1 a0_2 a0_3 a0_4 l0_5 a1_0 a1_1 a1_2 a1_3 a1_4))) else (circuit_gate.j0 k a2 t103 t104 t106 true a0_0 a0_1 a0_2 a0_3 a0_4 l0_5 a1_0 a1_1 a1_2 a1_3 a1_4)))))) = some (r1, r2) := H
 have A4 := Aside0.mk A40; clear A40; replace H := Option.bind_eq_some_iff.mp H; obtain ⟨t106, A50, H⟩ := H
 replace H : (if a1_0 < 1 then (circuit_gate.j0 k a2 t103 t104 t106 true a0_0 a0_1 a0_2 a0_3 a0_4 l0_5 a1_0 a1_1 a1_2 a1_3 a1_4) else (if a1_0 > 8 then (circuit_gate.j0 k a2 t103 t104 t106 true a0_0 a0_1 a0_2 a0_3 a0_4 l0_5 a1_0 a1_1 a1_2 a1_3 a1_4) else (if t103 = true then (if t104 = true then (if t105 = true then (circuit_gate.j0 k a2 t103 t104 t106 false a0_0 a0_1 a0_2 a0_3 a0_4 l0_5 a1_0 a1_1 a1_2 a1_3 a1_4) else (circuit_gate.j0 k a2 t103 t104 t106 (a1_4 != 0) a0_0 a0_1 a0_2 a0_3 a0_4 l0_5 a1_0 a1_1 a1_2 a1_3 a1_4)) else (if a1_1 = 0 then (if t105 = true then (circuit_gate.j0 k a2 t103 t104 t106 false a0_0 a0_1 a0_2 a0_3 a0_4 l0_5 a1_0 a1_1 a1_2 a1_3 a1_4) else (circuit_gate.j0 k a2 t103 t104 t106 (a1_4 != 0) a0_0 a0_1 a0_2 a0_3 a0_4 l0_5 a1_0 a1_1 a1_2 a1_3 a1_4)) else (circuit_gate.j0 k a2 t103 t104 t106 true a0_0 a0_1 a0_2 a0_3 a0_4 l0_5 a1_0 a1_1 a1_2 a1_3 a1_4))) else (if a1_3 = 0 then (if t104 = true then (if t105 = true then (circuit_gate.j0 k a2 t103 t104 t106 false a0_0 a0_1 a0_2 a0_3 a0_4 l0_5 a1_0 a1_1 a1_2 a1_3 a1_4) else (circuit_gate.j0 k a2 t103 t104 t106 (a1_4 != 0) a0_0 a0_1 a0_2 a0_3 a0_4 l0_5 a1_0 a1_1 a1_2 a1_3 a1_4)) else (if a1_1 = 0 then (if t105 = true then (circuit_gate.j0 k a2 t103 t104 t106 false a0_0 a0_1 a0_2 a0_3 a0_4 l0_5 a1_0 a1_1 a1_2 a1_3 a1_4) else (circuit_gate.j0 k a2 t103 t104 t106 (a1_4 != 0) a0_0 a0_1 a0_2 a0_3 a0_4 l0_5 a1_0 a1_1 a1_2 a1_3 a1_4)) else (circuit_gate.j0 k a2 t103 t104 t106 true a0_0 a0_1 a0_2 a0_3 a0_4 l0_5 a1_0 a1_1 a1_2 a1_3 a1_4))) else (circuit_gate.j0 k a2 t103 t104 t106 true a0_0 a0_1 a0_2 a0_3 a0_4 l0_5 a1_0 a1_1 a1_2 a1_3 a1_4))))) = some (r1, r2) := H
 have A5 := Aside0.mk A50; clear A50; have HC6 := Aside0.mk H; clear H
 go_enter Try.func94, Try.ntmps94
 go_upto_block 0 with (first | ((with_reducible refine gate_dst (N := 3) rfl ?_); refine box_event ?hg (N := 3) ?hd (cs := #[.int .i64 a0_0, .int .i64 a0_1, .int .i64 a0_2, .int .i64 a0_3, .int .i64 a0_4, .slice A0_5 l0_5.length c0_5]) (t := 24) ?hr ?_; (case hd => rfl); (case hg => rfl); (case hr => first | (go_simp; done) | (go_simp; rfl)); intro gb101 hg w7 hbox hb; have n0_ := Aside0.mk (below_step (blA HB.out) hb); have n1_ := Aside0.mk (hbox); have n2_ := Aside0.mk ((by rw [hg]; exact (below_size (blA HB.out)) : w.heap.size ≤ gb101)); have n3_ := Aside0.mk ((by rw [hg]; exact (below_size (blA HB.out)) : w.heap.size ≤ gb101)); clear HB; have HB := n0_; have BK101 := n1_; have GW101 := n2_; have GE101 := n3_; clear n0_ n1_ n2_ n3_; clear hb hbox hg) | ((with_reducible refine gate_dst (N := 4) rfl ?_); refine box_event ?hg (N := 4) ?hd (cs := #[.int .i64 a1_0, .int .i64 a1_1, .int .i64 a1_2, .int .i64 a1_3, .int .i64 a1_4]) (t := 105) ?hr ?_; (case hd => rfl); (case hg => rfl); (case hr => first | (go_simp; done) | (go_simp; rfl)); intro gb102 hg w8 hbox hb; have n0_ := Aside0.mk (blk_below (bkA BK101.out) hb); have n1_ := Aside0.mk (below_step (blA HB.out) hb); have n2_ := Aside0.mk (hbox); have n3_ := Aside0.mk ((by rw [hg]; exact (below_size (blA HB.out)) : w.heap.size ≤ gb102)); have n4_ := Aside0.mk ((by rw [hg]; exact (below_size (blA HB.out)) : w.heap.size ≤ gb102)); have n5_ := Aside0.mk ((by rw [hg]; exact Nat.ne_of_lt (blk_lt (bkA BK101.out)) : gb101 ≠ gb102)); have n6_ := Aside0.mk ((by rw [hg]; exact Nat.ne_of_gt (blk_lt (bkA BK101.out)) : gb102 ≠ gb101)); clear BK101; clear HB; have BK101 := n0_; have HB := n1_; have BK102 := n2_; have GW102 := n3_; have GE102 := n4_; have NB101_102 := n5_; have NB102_101 := n6_; clear n0_ n1_ n2_ n3_ n4_ n5_ n6_; clear hb hbox hg; have hnb9 := NB102_101.out; have hnc9 := NB101_102.out; have hcz10 := fun i => blk_cell BK102.out i; have hfz10 := fun i => blk_frozen BK102.out i; ) | ((with_reducible refine gate_callee (f := 121) rfl ?_); refine goesL_ (some 15) rfl rfl Try.func121 (by kernel_rfl) rfl #[.int .i64 a1_0] rfl gsA ?_; (with_reducible refine (circuit_needs.calls k a1_0 t103 t104 t105 _ A4.out).mono ?_); rintro e w' ⟨rfl, ⟨nd, rfl⟩⟩; refine ⟨_, rfl, ?_⟩) | ((with_reducible refine gate_callee (f := 117) rfl ?_); refine goesL_ (some 21) rfl rfl Try.func117 (by kernel_rfl) rfl #[.int .i64 a1_0] rfl gsA ?_; (with_reducible refine (circuit_turned.calls a1_0 t106 _ A5.out).mono ?_); rintro e w' ⟨rfl, ⟨nd, rfl⟩⟩; refine ⟨_, rfl, ?_⟩))
 (try simp only [Act.put, List.setIfInBounds_toArray, List.set_cons_zero, List.set_cons_succ])
 go_cut [] (fun wc => ∃ (kq : Nat), Aside0 (circuit_gate.j3 kq a2 t104 a0_0 a0_1 a0_2 a0_3 a0_4 l0_5 a1_0 a1_1 a1_2 a1_3 a1_4 = some (r1, r2)) ∧ Aside0 (kq ≤ k) ∧ Aside0 (wc.heap[gb101]? = some (.cells #[.int .i64 a0_0, .int .i64 a0_1, .int .i64 a0_2, .int .i64 a0_3, .int .i64 a0_4, (.slice A0_5 l0_5.length c0_5)] 24 (0, 0))) ∧ Aside0 (wc.heap[gb102]? = some (.cells #[.int .i64 a1_0, .int .i64 a1_1, .int .i64 a1_2, .int .i64 a1_3, .int .i64 a1_4] 105 (0, 0))) ∧ Aside0 (Below w.heap.size w wc))
 case first =>
  have H := HC6.out; clear HC6; have HC11 := Aside0.mk H; clear H
  go_upto_region 3 with (fail)
  go_cut [22] (fun v22 wc => ∃ (kq : Nat) (x22_10 : Bool), v22 = .bool x22_10 ∧ Aside0 (circuit_gate.j0 kq a2 t103 t104 t106 x22_10 a0_0 a0_1 a0_2 a0_3 a0_4 l0_5 a1_0 a1_1 a1_2 a1_3 a1_4 = some (r1, r2)) ∧ Aside0 (kq ≤ k) ∧ Aside0 (wc.heap[gb101]? = some (.cells #[.int .i64 a0_0, .int .i64 a0_1, .int .i64 a0_2, .int .i64 a0_3, .int .i64 a0_4, (.slice A0_5 l0_5.length c0_5)] 24 (0, 0))) ∧ Aside0 (wc.heap[gb102]? = some (.cells #[.int .i64 a1_0, .int .i64 a1_1, .int .i64 a1_2, .int .i64 a1_3, .int .i64 a1_4] 105 (0, 0))) ∧ Aside0 (Below w.heap.size w wc))
  case first =>
   have H := HC11.out; clear HC11
   by_cases c12 : a1_0 < 1
   ·rw [if_pos c12] at H
    have c12b0 : decide (a1_0 < 1) = true := decide_eq_true c12; clear c12
    (first | rw [c12b0] | (simp only [i64_w, i32_w]; rw [c12b0]) | skip)
    have H' := Aside0.mk H; clear H; have hnb13 := NB102_101.out; have hnc13 := NB101_102.out
    have hcz14 := fun i => blk_cell BK102.out i
    have hfz14 := fun i => blk_frozen BK102.out i
    go_wp2
    go_meet
    case rel => exact ⟨_, (true), eqA, H', ⟨omA⟩, ⟨bkA BK101.out⟩, ⟨bkA BK102.out⟩, ⟨blA HB.out⟩⟩
   ·rw [if_neg c12] at H
    have c12b0 : decide (a1_0 < 1) = false := decide_eq_false c12; clear c12
    (first | rw [c12b0] | (simp only [i64_w, i32_w]; rw [c12b0]) | skip)
    by_cases c15 : a1_0 > 8
    ·rw [if_pos c15] at H
     have c15b0 : decide (8 < a1_0) = true := decide_eq_true c15; clear c15; have H' := Aside0.mk H; clear H; have hnb16 := NB102_101.out; have hnc16 := NB101_102.out
     have hcz17 := fun i => blk_cell BK102.out i
     have hfz17 := fun i => blk_frozen BK102.out i
     go_wp2
     go_meet
     case rel => exact ⟨_, (true), eqA, H', ⟨omA⟩, ⟨bkA BK101.out⟩, ⟨bkA BK102.out⟩, ⟨blA HB.out⟩⟩
    ·rw [if_neg c15] at H
     have c15b0 : decide (8 < a1_0) = false := decide_eq_false c15; clear c15
     by_cases c18 : t103 = true
     ·subst c18
      have H1 : (if t104 = true then (if t105 = true then (circuit_gate.j0 k a2 true t104 t106 false a0_0 a0_1 a0_2 a0_3 a0_4 l0_5 a1_0 a1_1 a1_2 a1_3 a1_4) else (circuit_gate.j0 k a2 true t104 t106 (a1_4 != 0) a0_0 a0_1 a0_2 a0_3 a0_4 l0_5 a1_0 a1_1 a1_2 a1_3 a1_4)) else (if a1_1 = 0 then (if t105 = true then (circuit_gate.j0 k a2 true t104 t106 false a0_0 a0_1 a0_2 a0_3 a0_4 l0_5 a1_0 a1_1 a1_2 a1_3 a1_4) else (circuit_gate.j0 k a2 true t104 t106 (a1_4 != 0) a0_0 a0_1 a0_2 a0_3 a0_4 l0_5 a1_0 a1_1 a1_2 a1_3 a1_4)) else (circuit_gate.j0 k a2 true t104 t106 true a0_0 a0_1 a0_2 a0_3 a0_4 l0_5 a1_0 a1_1 a1_2 a1_3 a1_4))) = some (r1, r2) := by rw [if_pos rfl] at H; exact H
      clear H; have H := H1; clear H1
      by_cases c19 : t104 = true
      ·subst c19
       have H1 : (if t105 = true then (circuit_gate.j0 k a2 true true t106 false a0_0 a0_1 a0_2 a0_3 a0_4 l0_5 a1_0 a1_1 a1_2 a1_3 a1_4) else (circuit_gate.j0 k a2 true true t106 (a1_4 != 0) a0_0 a0_1 a0_2 a0_3 a0_4 l0_5 a1_0 a1_1 a1_2 a1_3 a1_4)) = some (r1, r2) := by rw [if_pos rfl] at H; exact H
       clear H; have H := H1; clear H1
       by_cases c20 : t105 = true
       ·subst c20
        have H1 : (circuit_gate.j0 k a2 true true t106 false a0_0 a0_1 a0_2 a0_3 a0_4 l0_5 a1_0 a1_1 a1_2 a1_3 a1_4) = some (r1, r2) := by rw [if_pos rfl] at H; exact H
        clear H; have H := H1; clear H1; have H' := Aside0.mk H; clear H; have hnb21 := NB102_101.out; have hnc21 := NB101_102.out
        have hcz22 := fun i => blk_cell BK102.out i
        have hfz22 := fun i => blk_frozen BK102.out i
        go_wp2
        go_meet
        case rel => exact ⟨_, (false), eqA, H', ⟨omA⟩, ⟨bkA BK101.out⟩, ⟨bkA BK102.out⟩, ⟨blA HB.out⟩⟩
       ·replace c20 := Bool.eq_false_iff.mpr c20; subst c20
        have H1 : (circuit_gate.j0 k a2 true true t106 (a1_4 != 0) a0_0 a0_1 a0_2 a0_3 a0_4 l0_5 a1_0 a1_1 a1_2 a1_3 a1_4) = some (r1, r2) := by rw [if_neg (show ¬ (false = true) by decide)] at H; exact H
        clear H; have H := H1; clear H1; have H' := Aside0.mk H; clear H; have hnb23 := NB102_101.out; have hnc23 := NB101_102.out
        have hcz24 := fun i => blk_cell BK102.out i
        have hfz24 := fun i => blk_frozen BK102.out i
        go_wp2
        go_meet
        case rel => exact ⟨_, ((a1_4 != 0)), eqA, H', ⟨omA⟩, ⟨bkA BK101.out⟩, ⟨bkA BK102.out⟩, ⟨blA HB.out⟩⟩
      ·replace c19 := Bool.eq_false_iff.mpr c19; subst c19
       have H1 : (if a1_1 = 0 then (if t105 = true then (circuit_gate.j0 k a2 true false t106 false a0_0 a0_1 a0_2 a0_3 a0_4 l0_5 a1_0 a1_1 a1_2 a1_3 a1_4) else (circuit_gate.j0 k a2 true false t106 (a1_4 != 0) a0_0 a0_1 a0_2 a0_3 a0_4 l0_5 a1_0 a1_1 a1_2 a1_3 a1_4)) else (circuit_gate.j0 k a2 true false t106 true a0_0 a0_1 a0_2 a0_3 a0_4 l0_5 a1_0 a1_1 a1_2 a1_3 a1_4)) = some (r1, r2) := by rw [if_neg (show ¬ (false = true) by decide)] at H; exact H
       clear H; have H := H1; clear H1
       by_cases c25 : a1_1 = 0
       ·rw [if_pos c25] at H
        have c25b0 : (a1_1 == 0) = true := beq_iff_eq.mpr c25; have c25b1 : (a1_1 != 0) = false := bne_eq_false_iff_eq.mpr c25; clear c25
        by_cases c26 : t105 = true
        ·subst c26
         have H1 : (circuit_gate.j0 k a2 true false t106 false a0_0 a0_1 a0_2 a0_3 a0_4 l0_5 a1_0 a1_1 a1_2 a1_3 a1_4) = some (r1, r2) := by rw [if_pos rfl] at H; exact H
         clear H; have H := H1; clear H1; have H' := Aside0.mk H; clear H; have hnb27 := NB102_101.out; have hnc27 := NB101_102.out
         have hcz28 := fun i => blk_cell BK102.out i
         have hfz28 := fun i => blk_frozen BK102.out i
         go_wp2
         go_meet
         case rel => exact ⟨_, (false), eqA, H', ⟨omA⟩, ⟨bkA BK101.out⟩, ⟨bkA BK102.out⟩, ⟨blA HB.out⟩⟩
        ·replace c26 := Bool.eq_false_iff.mpr c26; subst c26
         have H1 : (circuit_gate.j0 k a2 true false t106 (a1_4 != 0) a0_0 a0_1 a0_2 a0_3 a0_4 l0_5 a1_0 a1_1 a1_2 a1_3 a1_4) = some (r1, r2) := by rw [if_neg (show ¬ (false = true) by decide)] at H; exact H
         clear H; have H := H1; clear H1; have H' := Aside0.mk H; clear H; have hnb29 := NB102_101.out; have hnc29 := NB101_102.out
         have hcz30 := fun i => blk_cell BK102.out i
         have hfz30 := fun i => blk_frozen BK102.out i
         go_wp2
         go_meet
         case rel => exact ⟨_, ((a1_4 != 0)), eqA, H', ⟨omA⟩, ⟨bkA BK101.out⟩, ⟨bkA BK102.out⟩, ⟨blA HB.out⟩⟩
       ·rw [if_neg c25] at H
        have c25b0 : (a1_1 == 0) = false := beq_eq_false_iff_ne.mpr c25; have c25b1 : (a1_1 != 0) = true := bne_iff_ne.mpr c25; have H' := Aside0.mk H; clear H; have hnb31 := NB102_101.out; have hnc31 := NB101_102.out
        have hcz32 := fun i => blk_cell BK102.out i
        have hfz32 := fun i => blk_frozen BK102.out i
        go_wp2
        go_meet
        case rel => exact ⟨_, (true), eqA, H', ⟨omA⟩, ⟨bkA BK101.out⟩, ⟨bkA BK102.out⟩, ⟨blA HB.out⟩⟩
     ·replace c18 := Bool.eq_false_iff.mpr c18; subst c18
      have H1 : (if a1_3 = 0 then (if t104 = true then (if t105 = true then (circuit_gate.j0 k a2 false t104 t106 false a0_0 a0_1 a0_2 a0_3 a0_4 l0_5 a1_0 a1_1 a1_2 a1_3 a1_4) else (circuit_gate.j0 k a2 false t104 t106 (a1_4 != 0) a0_0 a0_1 a0_2 a0_3 a0_4 l0_5 a1_0 a1_1 a1_2 a1_3 a1_4)) else (if a1_1 = 0 then (if t105 = true then (circuit_gate.j0 k a2 false t104 t106 false a0_0 a0_1 a0_2 a0_3 a0_4 l0_5 a1_0 a1_1 a1_2 a1_3 a1_4) else (circuit_gate.j0 k a2 false t104 t106 (a1_4 != 0) a0_0 a0_1 a0_2 a0_3 a0_4 l0_5 a1_0 a1_1 a1_2 a1_3 a1_4)) else (circuit_gate.j0 k a2 false t104 t106 true a0_0 a0_1 a0_2 a0_3 a0_4 l0_5 a1_0 a1_1 a1_2 a1_3 a1_4))) else (circuit_gate.j0 k a2 false t104 t106 true a0_0 a0_1 a0_2 a0_3 a0_4 l0_5 a1_0 a1_1 a1_2 a1_3 a1_4)) = some (r1, r2) := by rw [if_neg (show ¬ (false = true) by decide)] at H; exact H
      clear H; have H := H1; clear H1
      by_cases c33 : a1_3 = 0
      ·rw [if_pos c33] at H
       have c33b0 : (a1_3 == 0) = true := beq_iff_eq.mpr c33; have c33b1 : (a1_3 != 0) = false := bne_eq_false_iff_eq.mpr c33; clear c33
       by_cases c34 : t104 = true
       ·subst c34
        have H1 : (if t105 = true then (circuit_gate.j0 k a2 false true t106 false a0_0 a0_1 a0_2 a0_3 a0_4 l0_5 a1_0 a1_1 a1_2 a1_3 a1_4) else (circuit_gate.j0 k a2 false true t106 (a1_4 != 0) a0_0 a0_1 a0_2 a0_3 a0_4 l0_5 a1_0 a1_1 a1_2 a1_3 a1_4)) = some (r1, r2) := by rw [if_pos rfl] at H; exact H
        clear H; have H := H1; clear H1
        by_cases c35 : t105 = true
        ·subst c35
         have H1 : (circuit_gate.j0 k a2 false true t106 false a0_0 a0_1 a0_2 a0_3 a0_4 l0_5 a1_0 a1_1 a1_2 a1_3 a1_4) = some (r1, r2) := by rw [if_pos rfl] at H; exact H
         clear H; have H := H1; clear H1; have H' := Aside0.mk H; clear H; have hnb36 := NB102_101.out; have hnc36 := NB101_102.out
         have hcz37 := fun i => blk_cell BK102.out i
         have hfz37 := fun i => blk_frozen BK102.out i
         go_wp2
         go_meet
         case rel => exact ⟨_, (false), eqA, H', ⟨omA⟩, ⟨bkA BK101.out⟩, ⟨bkA BK102.out⟩, ⟨blA HB.out⟩⟩
        ·replace c35 := Bool.eq_false_iff.mpr c35; subst c35
         have H1 : (circuit_gate.j0 k a2 false true t106 (a1_4 != 0) a0_0 a0_1 a0_2 a0_3 a0_4 l0_5 a1_0 a1_1 a1_2 a1_3 a1_4) = some (r1, r2) := by rw [if_neg (show ¬ (false = true) by decide)] at H; exact H
         clear H; have H := H1; clear H1; have H' := Aside0.mk H; clear H; have hnb38 := NB102_101.out; have hnc38 := NB101_102.out
         have hcz39 := fun i => blk_cell BK102.out i
         have hfz39 := fun i => blk_frozen BK102.out i
         go_wp2
         go_meet
         case rel => exact ⟨_, ((a1_4 != 0)), eqA, H', ⟨omA⟩, ⟨bkA BK101.out⟩, ⟨bkA BK102.out⟩, ⟨blA HB.out⟩⟩
       ·replace c34 := Bool.eq_false_iff.mpr c34; subst c34
        have H1 : (if a1_1 = 0 then (if t105 = true then (circuit_gate.j0 k a2 false false t106 false a0_0 a0_1 a0_2 a0_3 a0_4 l0_5 a1_0 a1_1 a1_2 a1_3 a1_4) else (circuit_gate.j0 k a2 false false t106 (a1_4 != 0) a0_0 a0_1 a0_2 a0_3 a0_4 l0_5 a1_0 a1_1 a1_2 a1_3 a1_4)) else (circuit_gate.j0 k a2 false false t106 true a0_0 a0_1 a0_2 a0_3 a0_4 l0_5 a1_0 a1_1 a1_2 a1_3 a1_4)) = some (r1, r2) := by rw [if_neg (show ¬ (false = true) by decide)] at H; exact H
        clear H; have H := H1; clear H1
        by_cases c40 : a1_1 = 0
        ·rw [if_pos c40] at H
         have c40b0 : (a1_1 == 0) = true := beq_iff_eq.mpr c40; have c40b1 : (a1_1 != 0) = false := bne_eq_false_iff_eq.mpr c40; clear c40
         by_cases c41 : t105 = true
         ·subst c41
          have H1 : (circuit_gate.j0 k a2 false false t106 false a0_0 a0_1 a0_2 a0_3 a0_4 l0_5 a1_0 a1_1 a1_2 a1_3 a1_4) = some (r1, r2) := by rw [if_pos rfl] at H; exact H
          clear H; have H := H1; clear H1; have H' := Aside0.mk H; clear H; have hnb42 := NB102_101.out; have hnc42 := NB101_102.out
          have hcz43 := fun i => blk_cell BK102.out i
          have hfz43 := fun i => blk_frozen BK102.out i
          go_wp2
          go_meet
          case rel => exact ⟨_, (false), eqA, H', ⟨omA⟩, ⟨bkA BK101.out⟩, ⟨bkA BK102.out⟩, ⟨blA HB.out⟩⟩
         ·replace c41 := Bool.eq_false_iff.mpr c41; subst c41
          have H1 : (circuit_gate.j0 k a2 false false t106 (a1_4 != 0) a0_0 a0_1 a0_2 a0_3 a0_4 l0_5 a1_0 a1_1 a1_2 a1_3 a1_4) = some (r1, r2) := by rw [if_neg (show ¬ (false = true) by decide)] at H; exact H
          clear H; have H := H1; clear H1; have H' := Aside0.mk H; clear H; have hnb44 := NB102_101.out; have hnc44 := NB101_102.out
          have hcz45 := fun i => blk_cell BK102.out i
          have hfz45 := fun i => blk_frozen BK102.out i
          go_wp2
          go_meet
          case rel => exact ⟨_, ((a1_4 != 0)), eqA, H', ⟨omA⟩, ⟨bkA BK101.out⟩, ⟨bkA BK102.out⟩, ⟨blA HB.out⟩⟩
        ·rw [if_neg c40] at H
         have c40b0 : (a1_1 == 0) = false := beq_eq_false_iff_ne.mpr c40; have c40b1 : (a1_1 != 0) = true := bne_iff_ne.mpr c40; have H' := Aside0.mk H; clear H; have hnb46 := NB102_101.out; have hnc46 := NB101_102.out
         have hcz47 := fun i => blk_cell BK102.out i
         have hfz47 := fun i => blk_frozen BK102.out i
         go_wp2
         go_meet
         case rel => exact ⟨_, (true), eqA, H', ⟨omA⟩, ⟨bkA BK101.out⟩, ⟨bkA BK102.out⟩, ⟨blA HB.out⟩⟩
      ·rw [if_neg c33] at H
       have c33b0 : (a1_3 == 0) = false := beq_eq_false_iff_ne.mpr c33; have c33b1 : (a1_3 != 0) = true := bne_iff_ne.mpr c33; have H' := Aside0.mk H; clear H; have hnb48 := NB102_101.out; have hnc48 := NB101_102.out
       have hcz49 := fun i => blk_cell BK102.out i
       have hfz49 := fun i => blk_frozen BK102.out i
       go_wp2
       go_meet
       case rel => exact ⟨_, (true), eqA, H', ⟨omA⟩, ⟨bkA BK101.out⟩, ⟨bkA BK102.out⟩, ⟨blA HB.out⟩⟩
  case rest =>
   clear HC11; (try clear c1); (try clear c2); (try clear p2); (try clear c3); (try clear c4); (try clear c9); (try clear c11); (try clear c12); (try clear c12b0); (try clear c13); (try clear c15); (try clear c15b0); (try clear c16); (try clear c18); (try clear c19); (try clear c20); (try clear c21); (try clear c23); (try clear c25); (try clear c25b0); (try clear c25b1); (try clear c26); (try clear c27); (try clear c29); (try clear c31); (try clear c33); (try clear c33b0); (try clear c33b1); (try clear c34); (try clear c35); (try clear c36); (try clear c38); (try clear c40); (try clear c40b0); (try clear c40b1); (try clear c41); (try clear c42); (try clear c44); (try clear c46); (try clear c48); (try clear hcz10); (try clear hcz14); (try clear hcz17); (try clear hcz22); (try clear hcz24); (try clear hcz28); (try clear hcz30); (try clear hcz32); (try clear hcz37); (try clear hcz39); (try clear hcz43); (try clear hcz45); (try clear hcz47); (try clear hcz49); (try clear hfz10); (try clear hfz14); (try clear hfz17); (try clear hfz22); (try clear hfz24); (try clear hfz28); (try clear hfz30); (try clear hfz32); (try clear hfz37); (try clear hfz39); (try clear hfz43); (try clear hfz45); (try clear hfz47); (try clear hfz49); obtain ⟨kq, x22_10, rfl, HA, HJ10, BK101, BK102, HB⟩ := hcut
   cases kq with
   | zero => exact absurd HA.out (by simp [circuit_gate.j0])
   | succ kj10 =>
    have H := HA.out; clear HA
    simp only [circuit_gate.j0] at H
    by_cases c50 : x22_10 = true
    ·subst c50
     have H1 : (some (0, 3)) = some (r1, r2) := by rw [if_pos rfl] at H; exact H
     clear H; have H := H1; clear H1
     simp only [Option.some.injEq, Prod.mk.injEq] at H
     obtain ⟨rfl, rfl⟩ := H
     go_wp2
     go_ret2
     exact ⟨by first | rfl | (simp [errW_none, errW_some] <;> rfl) | (simp [*, errW_none, errW_some] <;> rfl), blA HB.out⟩
    ·replace c50 := Bool.eq_false_iff.mpr c50; subst c50
     have H1 : (if a1_2 < 0 then (circuit_gate.j1 kj10 a2 t104 t106 true a0_0 a0_1 a0_2 a0_3 a0_4 l0_5 a1_0 a1_1 a1_2 a1_3 a1_4) else (if a1_2 ≥ a2 then (circuit_gate.j1 kj10 a2 t104 t106 true a0_0 a0_1 a0_2 a0_3 a0_4 l0_5 a1_0 a1_1 a1_2 a1_3 a1_4) else (if a1_3 < 0 then (circuit_gate.j1 kj10 a2 t104 t106 true a0_0 a0_1 a0_2 a0_3 a0_4 l0_5 a1_0 a1_1 a1_2 a1_3 a1_4) else (if t103 = true then (circuit_gate.j1 kj10 a2 t104 t106 (decide (a1_3 ≥ a2)) a0_0 a0_1 a0_2 a0_3 a0_4 l0_5 a1_0 a1_1 a1_2 a1_3 a1_4) else (circuit_gate.j1 kj10 a2 t104 t106 false a0_0 a0_1 a0_2 a0_3 a0_4 l0_5 a1_0 a1_1 a1_2 a1_3 a1_4))))) = some (r1, r2) := by rw [if_neg (show ¬ (false = true) by decide)] at H; exact H
     clear H; have H := H1; clear H1; have HC51 := Aside0.mk H; clear H
     go_upto_region 5 with (fail)
     go_cut [58] (fun v58 wc => ∃ (kq : Nat) (x58_50 : Bool), v58 = .bool x58_50 ∧ Aside0 (circuit_gate.j1 kq a2 t104 t106 x58_50 a0_0 a0_1 a0_2 a0_3 a0_4 l0_5 a1_0 a1_1 a1_2 a1_3 a1_4 = some (r1, r2)) ∧ Aside0 (kq ≤ kj10) ∧ Aside0 (wc.heap[gb101]? = some (.cells #[.int .i64 a0_0, .int .i64 a0_1, .int .i64 a0_2, .int .i64 a0_3, .int .i64 a0_4, (.slice A0_5 l0_5.length c0_5)] 24 (0, 0))) ∧ Aside0 (wc.heap[gb102]? = some (.cells #[.int .i64 a1_0, .int .i64 a1_1, .int .i64 a1_2, .int .i64 a1_3, .int .i64 a1_4] 105 (0, 0))) ∧ Aside0 (Below w.heap.size w wc))
     case first =>
      have H := HC51.out; clear HC51
      by_cases c52 : a1_2 < 0
      ·rw [if_pos c52] at H
       have c52b0 : decide (a1_2 < 0) = true := decide_eq_true c52; clear c52
       (first | rw [c52b0] | (simp only [i64_w, i32_w]; rw [c52b0]) | skip)
       have H' := Aside0.mk H; clear H; have hnb53 := NB102_101.out; have hnc53 := NB101_102.out
       have hcz54 := fun i => blk_cell BK102.out i
       have hfz54 := fun i => blk_frozen BK102.out i
       go_wp2
       go_meet
       case rel => exact ⟨_, (true), eqA, H', ⟨by have := HJ10.out; first | omega | exact Nat.le_refl _⟩, ⟨bkA BK101.out⟩, ⟨bkA BK102.out⟩, ⟨blA HB.out⟩⟩
      ·rw [if_neg c52] at H
       have c52b0 : decide (a1_2 < 0) = false := decide_eq_false c52; clear c52
       (first | rw [c52b0] | (simp only [i64_w, i32_w]; rw [c52b0]) | skip)
       by_cases c55 : a1_2 ≥ a2
       ·rw [if_pos c55] at H
        have c55b0 : decide (a2 ≤ a1_2) = true := decide_eq_true c55; clear c55; have H' := Aside0.mk H; clear H; have hnb56 := NB102_101.out; have hnc56 := NB101_102.out
        have hcz57 := fun i => blk_cell BK102.out i
        have hfz57 := fun i => blk_frozen BK102.out i
        go_wp2
        go_meet
        case rel => exact ⟨_, (true), eqA, H', ⟨by have := HJ10.out; first | omega | exact Nat.le_refl _⟩, ⟨bkA BK101.out⟩, ⟨bkA BK102.out⟩, ⟨blA HB.out⟩⟩
       ·rw [if_neg c55] at H
        have c55b0 : decide (a2 ≤ a1_2) = false := decide_eq_false c55; clear c55
        by_cases c58 : a1_3 < 0
        ·rw [if_pos c58] at H
         have c58b0 : decide (a1_3 < 0) = true := decide_eq_true c58; clear c58; have H' := Aside0.mk H; clear H; have hnb59 := NB102_101.out; have hnc59 := NB101_102.out
         have hcz60 := fun i => blk_cell BK102.out i
         have hfz60 := fun i => blk_frozen BK102.out i
         go_wp2
         go_meet
         case rel => exact ⟨_, (true), eqA, H', ⟨by have := HJ10.out; first | omega | exact Nat.le_refl _⟩, ⟨bkA BK101.out⟩, ⟨bkA BK102.out⟩, ⟨blA HB.out⟩⟩
        ·rw [if_neg c58] at H
         have c58b0 : decide (a1_3 < 0) = false := decide_eq_false c58; clear c58
         by_cases c61 : t103 = true
         ·subst c61
          have H1 : (circuit_gate.j1 kj10 a2 t104 t106 (decide (a1_3 ≥ a2)) a0_0 a0_1 a0_2 a0_3 a0_4 l0_5 a1_0 a1_1 a1_2 a1_3 a1_4) = some (r1, r2) := by rw [if_pos rfl] at H; exact H
          clear H; have H := H1; clear H1; have H' := Aside0.mk H; clear H; have hnb62 := NB102_101.out; have hnc62 := NB101_102.out
          have hcz63 := fun i => blk_cell BK102.out i
          have hfz63 := fun i => blk_frozen BK102.out i
          go_wp2
          go_meet
          case rel => exact ⟨_, (decide (a1_3 ≥ a2)), eqA, H', ⟨by have := HJ10.out; first | omega | exact Nat.le_refl _⟩, ⟨bkA BK101.out⟩, ⟨bkA BK102.out⟩, ⟨blA HB.out⟩⟩
         ·replace c61 := Bool.eq_false_iff.mpr c61; subst c61
          have H1 : (circuit_gate.j1 kj10 a2 t104 t106 false a0_0 a0_1 a0_2 a0_3 a0_4 l0_5 a1_0 a1_1 a1_2 a1_3 a1_4) = some (r1, r2) := by rw [if_neg (show ¬ (false = true) by decide)] at H; exact H
          clear H; have H := H1; clear H1; have H' := Aside0.mk H; clear H; have hnb64 := NB102_101.out; have hnc64 := NB101_102.out
          have hcz65 := fun i => blk_cell BK102.out i
          have hfz65 := fun i => blk_frozen BK102.out i
          go_wp2
          go_meet
          case rel => exact ⟨_, (false), eqA, H', ⟨by have := HJ10.out; first | omega | exact Nat.le_refl _⟩, ⟨bkA BK101.out⟩, ⟨bkA BK102.out⟩, ⟨blA HB.out⟩⟩
     case rest =>
      clear HC51; (try clear c1); (try clear c2); (try clear p2); (try clear c3); (try clear c4); (try clear c5); (try clear c6); (try clear c9); (try clear c11); (try clear c12); (try clear c12b0); (try clear c13); (try clear c15); (try clear c15b0); (try clear c16); (try clear c18); (try clear c19); (try clear c20); (try clear c21); (try clear c23); (try clear c25); (try clear c25b0); (try clear c25b1); (try clear c26); (try clear c27); (try clear c29); (try clear c31); (try clear c33); (try clear c33b0); (try clear c33b1); (try clear c34); (try clear c35); (try clear c36); (try clear c38); (try clear c40); (try clear c40b0); (try clear c40b1); (try clear c41); (try clear c42); (try clear c44); (try clear c46); (try clear c48); (try clear c50); (try clear c52); (try clear c52b0); (try clear c53); (try clear c55); (try clear c55b0); (try clear c56); (try clear c58); (try clear c58b0); (try clear c59); (try clear c61); (try clear c62); (try clear c64); (try clear hcz10); (try clear hcz14); (try clear hcz17); (try clear hcz22); (try clear hcz24); (try clear hcz28); (try clear hcz30); (try clear hcz32); (try clear hcz37); (try clear hcz39); (try clear hcz43); (try clear hcz45); (try clear hcz47); (try clear hcz49); (try clear hcz54); (try clear hcz57); (try clear hcz60); (try clear hcz63); (try clear hcz65); (try clear hfz10); (try clear hfz14); (try clear hfz17); (try clear hfz22); (try clear hfz24); (try clear hfz28); (try clear hfz30); (try clear hfz32); (try clear hfz37); (try clear hfz39); (try clear hfz43); (try clear hfz45); (try clear hfz47); (try clear hfz49); (try clear hfz54); (try clear hfz57); (try clear hfz60); (try clear hfz63); (try clear hfz65); (try clear p2); obtain ⟨kq, x58_50, rfl, HA, HJ50, BK101, BK102, HB⟩ := hcut
      cases kq with
      | zero => exact absurd HA.out (by simp [circuit_gate.j1])
      | succ kj50 =>
       have H := HA.out; clear HA
       simp only [circuit_gate.j1] at H
       by_cases c66 : x58_50 = true
       ·subst c66
        have H1 : (some (0, 4)) = some (r1, r2) := by rw [if_pos rfl] at H; exact H
        clear H; have H := H1; clear H1
        simp only [Option.some.injEq, Prod.mk.injEq] at H
        obtain ⟨rfl, rfl⟩ := H
        go_wp2
        go_ret2
        exact ⟨by first | rfl | (simp [errW_none, errW_some] <;> rfl) | (simp [*, errW_none, errW_some] <;> rfl), blA HB.out⟩
       ·replace c66 := Bool.eq_false_iff.mpr c66; subst c66
        have H1 : (if t106 = 0 then (circuit_gate.j2 kj50 a2 t104 false a0_0 a0_1 a0_2 a0_3 a0_4 l0_5 a1_0 a1_1 a1_2 a1_3 a1_4) else ((turn_Fits.f t106 a0_0 a1_4).bind fun t107 => (circuit_gate.j2 kj50 a2 t104 (!t107) a0_0 a0_1 a0_2 a0_3 a0_4 l0_5 a1_0 a1_1 a1_2 a1_3 a1_4))) = some (r1, r2) := by rw [if_neg (show ¬ (false = true) by decide)] at H; exact H
        clear H; have H := H1; clear H1; have HC67 := Aside0.mk H; clear H
        go_upto_region 7 with (fail)
        go_cut [82] (fun v82 wc => ∃ (kq : Nat) (x82_66 : Bool), v82 = .bool x82_66 ∧ Aside0 (circuit_gate.j2 kq a2 t104 x82_66 a0_0 a0_1 a0_2 a0_3 a0_4 l0_5 a1_0 a1_1 a1_2 a1_3 a1_4 = some (r1, r2)) ∧ Aside0 (kq ≤ kj50) ∧ Aside0 (wc.heap[gb101]? = some (.cells #[.int .i64 a0_0, .int .i64 a0_1, .int .i64 a0_2, .int .i64 a0_3, .int .i64 a0_4, (.slice A0_5 l0_5.length c0_5)] 24 (0, 0))) ∧ Aside0 (wc.heap[gb102]? = some (.cells #[.int .i64 a1_0, .int .i64 a1_1, .int .i64 a1_2, .int .i64 a1_3, .int .i64 a1_4] 105 (0, 0))) ∧ Aside0 (Below w.heap.size w wc))
        case first =>
         have H := HC67.out; clear HC67
         by_cases c68 : t106 = 0
         ·rw [if_pos c68] at H
          have c68b0 : (t106 == 0) = true := beq_iff_eq.mpr c68; have c68b1 : (t106 != 0) = false := bne_eq_false_iff_eq.mpr c68; clear c68
          (first | rw [c68b0] | (simp only [i64_w, i32_w]; rw [c68b0]) | skip)
          have H' := Aside0.mk H; clear H
          go_wp2
          go_meet
          case rel => exact ⟨_, (false), eqA, H', ⟨by have := HJ10.out; have := HJ50.out; first | omega | exact Nat.le_refl _⟩, ⟨bkA BK101.out⟩, ⟨bkA BK102.out⟩, ⟨blA HB.out⟩⟩
         ·rw [if_neg c68] at H
          have c68b0 : (t106 == 0) = false := beq_eq_false_iff_ne.mpr c68; have c68b1 : (t106 != 0) = true := bne_iff_ne.mpr c68
          (first | rw [c68b0] | (simp only [i64_w, i32_w]; rw [c68b0]) | skip)
          replace H := Option.bind_eq_some_iff.mp H; obtain ⟨t107, A690, H⟩ := H; replace H : (circuit_gate.j2 kj50 a2 t104 (!t107) a0_0 a0_1 a0_2 a0_3 a0_4 l0_5 a1_0 a1_1 a1_2 a1_3 a1_4) = some (r1, r2) := H; have A69 := Aside0.mk A690; clear A690; have H' := Aside0.mk H; clear H; have hnb70 := NB101_102.out; have hnc70 := NB102_101.out
          have hcz71 := fun i => blk_cell BK101.out i
          have hfz71 := fun i => blk_frozen BK101.out i
          have hcz72 := fun i => blk_cell BK102.out i
          have hfz72 := fun i => blk_frozen BK102.out i
          go_wp2_with (first | (go_at_call 75; (with_reducible refine (turn_Fits.calls t106 a0_0 a1_4 t107 _ A69.out).mono ?_); rintro e w' ⟨rfl, ⟨nd, rfl⟩⟩))
          go_meet
          case rel => exact ⟨_, (!t107), eqA, H', ⟨by have := HJ10.out; have := HJ50.out; first | omega | exact Nat.le_refl _⟩, ⟨bkA BK101.out⟩, ⟨bkA BK102.out⟩, ⟨blA HB.out⟩⟩
        case rest =>
         clear HC67; (try clear c1); (try clear c2); (try clear p2); (try clear c3); (try clear c4); (try clear c5); (try clear c6); (try clear c7); (try clear c9); (try clear c11); (try clear c12); (try clear c12b0); (try clear c13); (try clear c15); (try clear c15b0); (try clear c16); (try clear c18); (try clear c19); (try clear c20); (try clear c21); (try clear c23); (try clear c25); (try clear c25b0); (try clear c25b1); (try clear c26); (try clear c27); (try clear c29); (try clear c31); (try clear c33); (try clear c33b0); (try clear c33b1); (try clear c34); (try clear c35); (try clear c36); (try clear c38); (try clear c40); (try clear c40b0); (try clear c40b1); (try clear c41); (try clear c42); (try clear c44); (try clear c46); (try clear c48); (try clear c50); (try clear c52); (try clear c52b0); (try clear c53); (try clear c55); (try clear c55b0); (try clear c56); (try clear c58); (try clear c58b0); (try clear c59); (try clear c61); (try clear c62); (try clear c64); (try clear c66); (try clear c68); (try clear c68b0); (try clear c68b1); (try clear c70); (try clear hcz10); (try clear hcz14); (try clear hcz17); (try clear hcz22); (try clear hcz24); (try clear hcz28); (try clear hcz30); (try clear hcz32); (try clear hcz37); (try clear hcz39); (try clear hcz43); (try clear hcz45); (try clear hcz47); (try clear hcz49); (try clear hcz54); (try clear hcz57); (try clear hcz60); (try clear hcz63); (try clear hcz65); (try clear hcz71); (try clear hcz72); (try clear hfz10); (try clear hfz14); (try clear hfz17); (try clear hfz22); (try clear hfz24); (try clear hfz28); (try clear hfz30); (try clear hfz32); (try clear hfz37); (try clear hfz39); (try clear hfz43); (try clear hfz45); (try clear hfz47); (try clear hfz49); (try clear hfz54); (try clear hfz57); (try clear hfz60); (try clear hfz63); (try clear hfz65); (try clear hfz71); (try clear hfz72); (try clear p2); obtain ⟨kq, x82_66, rfl, HA, HJ66, BK101, BK102, HB⟩ := hcut
         cases kq with
         | zero => exact absurd HA.out (by simp [circuit_gate.j2])
         | succ kj66 =>
          have H := HA.out; clear HA
          simp only [circuit_gate.j2] at H
          by_cases c73 : x82_66 = true
          ·subst c73
           have H1 : (some (0, 1)) = some (r1, r2) := by rw [if_pos rfl] at H; exact H
           clear H; have H := H1; clear H1
           simp only [Option.some.injEq, Prod.mk.injEq] at H
           obtain ⟨rfl, rfl⟩ := H
           go_wp2
           go_ret2
           exact ⟨by first | rfl | (simp [errW_none, errW_some] <;> rfl) | (simp [*, errW_none, errW_some] <;> rfl), blA HB.out⟩
          ·replace c73 := Bool.eq_false_iff.mpr c73; subst c73
           have H1 : (if t104 = true then (if a1_1 = a2 then (if a1_0 = 7 then (if a1_4 = (wrap64 (a2 + 1)) then (circuit_gate.j3 kj66 a2 t104 a0_0 a0_1 a0_2 a0_3 a0_4 l0_5 a1_0 a1_1 a1_2 a1_3 a1_4) else (some (0, 3))) else (circuit_gate.j3 kj66 a2 t104 a0_0 a0_1 a0_2 a0_3 a0_4 l0_5 a1_0 a1_1 a1_2 a1_3 a1_4)) else (some (0, 3))) else (if a1_0 = 7 then (if a1_4 = (wrap64 (a2 + 1)) then (circuit_gate.j3 kj66 a2 t104 a0_0 a0_1 a0_2 a0_3 a0_4 l0_5 a1_0 a1_1 a1_2 a1_3 a1_4) else (some (0, 3))) else (circuit_gate.j3 kj66 a2 t104 a0_0 a0_1 a0_2 a0_3 a0_4 l0_5 a1_0 a1_1 a1_2 a1_3 a1_4))) = some (r1, r2) := by rw [if_neg (show ¬ (false = true) by decide)] at H; exact H
           clear H; have H := H1; clear H1
           by_cases c74 : t104 = true
           ·subst c74
            have H1 : (if a1_1 = a2 then (if a1_0 = 7 then (if a1_4 = (wrap64 (a2 + 1)) then (circuit_gate.j3 kj66 a2 true a0_0 a0_1 a0_2 a0_3 a0_4 l0_5 a1_0 a1_1 a1_2 a1_3 a1_4) else (some (0, 3))) else (circuit_gate.j3 kj66 a2 true a0_0 a0_1 a0_2 a0_3 a0_4 l0_5 a1_0 a1_1 a1_2 a1_3 a1_4)) else (some (0, 3))) = some (r1, r2) := by rw [if_pos rfl] at H; exact H
            clear H; have H := H1; clear H1
            by_cases c75 : a1_1 = a2
            ·rw [if_pos c75] at H
             have c75b0 : (a1_1 == a2) = true := beq_iff_eq.mpr c75; have c75b1 : (a1_1 != a2) = false := bne_eq_false_iff_eq.mpr c75; clear c75
             by_cases c76 : a1_0 = 7
             ·rw [if_pos c76] at H
              have c76b0 : (a1_0 == 7) = true := beq_iff_eq.mpr c76; have c76b1 : (a1_0 != 7) = false := bne_eq_false_iff_eq.mpr c76; clear c76
              by_cases c77 : a1_4 = (wrap64 (a2 + 1))
              ·rw [if_pos c77] at H
               have c77b0 : (a1_4 == (wrap64 (a2 + 1))) = true := beq_iff_eq.mpr c77; have c77b1 : (a1_4 != (wrap64 (a2 + 1))) = false := bne_eq_false_iff_eq.mpr c77; clear c77; have H' := Aside0.mk H; clear H; have hnb78 := NB102_101.out; have hnc78 := NB101_102.out
               have hcz79 := fun i => blk_cell BK102.out i
               have hfz79 := fun i => blk_frozen BK102.out i
               go_wp2
               go_meet
               case rel => exact ⟨_, H', ⟨by have := HJ10.out; have := HJ50.out; have := HJ66.out; first | omega | exact Nat.le_refl _⟩, ⟨bkA BK101.out⟩, ⟨bkA BK102.out⟩, ⟨blA HB.out⟩⟩
              ·rw [if_neg c77] at H
               have c77b0 : (a1_4 == (wrap64 (a2 + 1))) = false := beq_eq_false_iff_ne.mpr c77; have c77b1 : (a1_4 != (wrap64 (a2 + 1))) = true := bne_iff_ne.mpr c77
               simp only [Option.some.injEq, Prod.mk.injEq] at H
               obtain ⟨rfl, rfl⟩ := H; have hnb80 := NB102_101.out; have hnc80 := NB101_102.out
               have hcz81 := fun i => blk_cell BK102.out i
               have hfz81 := fun i => blk_frozen BK102.out i
               go_wp2
               go_ret2
               exact ⟨by first | rfl | (simp [errW_none, errW_some] <;> rfl) | (simp [*, errW_none, errW_some] <;> rfl), blA HB.out⟩
             ·rw [if_neg c76] at H
              have c76b0 : (a1_0 == 7) = false := beq_eq_false_iff_ne.mpr c76; have c76b1 : (a1_0 != 7) = true := bne_iff_ne.mpr c76; have H' := Aside0.mk H; clear H; have hnb82 := NB102_101.out; have hnc82 := NB101_102.out
              have hcz83 := fun i => blk_cell BK102.out i
              have hfz83 := fun i => blk_frozen BK102.out i
              go_wp2
              go_meet
              case rel => exact ⟨_, H', ⟨by have := HJ10.out; have := HJ50.out; have := HJ66.out; first | omega | exact Nat.le_refl _⟩, ⟨bkA BK101.out⟩, ⟨bkA BK102.out⟩, ⟨blA HB.out⟩⟩
            ·rw [if_neg c75] at H
             have c75b0 : (a1_1 == a2) = false := beq_eq_false_iff_ne.mpr c75; have c75b1 : (a1_1 != a2) = true := bne_iff_ne.mpr c75
             simp only [Option.some.injEq, Prod.mk.injEq] at H
             obtain ⟨rfl, rfl⟩ := H; have hnb84 := NB102_101.out; have hnc84 := NB101_102.out
             have hcz85 := fun i => blk_cell BK102.out i
             have hfz85 := fun i => blk_frozen BK102.out i
             go_wp2
             go_ret2
             exact ⟨by first | rfl | (simp [errW_none, errW_some] <;> rfl) | (simp [*, errW_none, errW_some] <;> rfl), blA HB.out⟩
           ·replace c74 := Bool.eq_false_iff.mpr c74; subst c74
            have H1 : (if a1_0 = 7 then (if a1_4 = (wrap64 (a2 + 1)) then (circuit_gate.j3 kj66 a2 false a0_0 a0_1 a0_2 a0_3 a0_4 l0_5 a1_0 a1_1 a1_2 a1_3 a1_4) else (some (0, 3))) else (circuit_gate.j3 kj66 a2 false a0_0 a0_1 a0_2 a0_3 a0_4 l0_5 a1_0 a1_1 a1_2 a1_3 a1_4)) = some (r1, r2) := by rw [if_neg (show ¬ (false = true) by decide)] at H; exact H
            clear H; have H := H1; clear H1
            by_cases c86 : a1_0 = 7
            ·rw [if_pos c86] at H
             have c86b0 : (a1_0 == 7) = true := beq_iff_eq.mpr c86; have c86b1 : (a1_0 != 7) = false := bne_eq_false_iff_eq.mpr c86; clear c86
             by_cases c87 : a1_4 = (wrap64 (a2 + 1))
             ·rw [if_pos c87] at H
              have c87b0 : (a1_4 == (wrap64 (a2 + 1))) = true := beq_iff_eq.mpr c87; have c87b1 : (a1_4 != (wrap64 (a2 + 1))) = false := bne_eq_false_iff_eq.mpr c87; clear c87; have H' := Aside0.mk H; clear H; have hnb88 := NB102_101.out; have hnc88 := NB101_102.out
              have hcz89 := fun i => blk_cell BK102.out i
              have hfz89 := fun i => blk_frozen BK102.out i
              go_wp2
              go_meet
              case rel => exact ⟨_, H', ⟨by have := HJ10.out; have := HJ50.out; have := HJ66.out; first | omega | exact Nat.le_refl _⟩, ⟨bkA BK101.out⟩, ⟨bkA BK102.out⟩, ⟨blA HB.out⟩⟩
             ·rw [if_neg c87] at H
              have c87b0 : (a1_4 == (wrap64 (a2 + 1))) = false := beq_eq_false_iff_ne.mpr c87; have c87b1 : (a1_4 != (wrap64 (a2 + 1))) = true := bne_iff_ne.mpr c87
              simp only [Option.some.injEq, Prod.mk.injEq] at H
              obtain ⟨rfl, rfl⟩ := H; have hnb90 := NB102_101.out; have hnc90 := NB101_102.out
              have hcz91 := fun i => blk_cell BK102.out i
              have hfz91 := fun i => blk_frozen BK102.out i
              go_wp2
              go_ret2
              exact ⟨by first | rfl | (simp [errW_none, errW_some] <;> rfl) | (simp [*, errW_none, errW_some] <;> rfl), blA HB.out⟩
            ·rw [if_neg c86] at H
             have c86b0 : (a1_0 == 7) = false := beq_eq_false_iff_ne.mpr c86; have c86b1 : (a1_0 != 7) = true := bne_iff_ne.mpr c86; have H' := Aside0.mk H; clear H; have hnb92 := NB102_101.out; have hnc92 := NB101_102.out
             have hcz93 := fun i => blk_cell BK102.out i
             have hfz93 := fun i => blk_frozen BK102.out i
             go_wp2
             go_meet
             case rel => exact ⟨_, H', ⟨by have := HJ10.out; have := HJ50.out; have := HJ66.out; first | omega | exact Nat.le_refl _⟩, ⟨bkA BK101.out⟩, ⟨bkA BK102.out⟩, ⟨blA HB.out⟩⟩
 case rest =>
  clear HC6; (try clear c1); (try clear c2); (try clear p2); (try clear c3); (try clear c4); (try clear c5); (try clear c6); (try clear p6); (try clear c7); (try clear c8); (try clear c9); (try clear c11); (try clear c12); (try clear c12b0); (try clear c13); (try clear c15); (try clear c15b0); (try clear c16); (try clear c18); (try clear c19); (try clear c20); (try clear c21); (try clear c23); (try clear c25); (try clear c25b0); (try clear c25b1); (try clear c26); (try clear c27); (try clear c29); (try clear c31); (try clear c33); (try clear c33b0); (try clear c33b1); (try clear c34); (try clear c35); (try clear c36); (try clear c38); (try clear c40); (try clear c40b0); (try clear c40b1); (try clear c41); (try clear c42); (try clear c44); (try clear c46); (try clear c48); (try clear c50); (try clear c52); (try clear c52b0); (try clear c53); (try clear c55); (try clear c55b0); (try clear c56); (try clear c58); (try clear c58b0); (try clear c59); (try clear c61); (try clear c62); (try clear c64); (try clear p64); (try clear c66); (try clear c68); (try clear c68b0); (try clear c68b1); (try clear c70); (try clear c73); (try clear c74); (try clear c75); (try clear c75b0); (try clear c75b1); (try clear c76); (try clear c76b0); (try clear c76b1); (try clear c77); (try clear c77b0); (try clear c77b1); (try clear c78); (try clear c80); (try clear c82); (try clear c84); (try clear c86); (try clear c86b0); (try clear c86b1); (try clear c87); (try clear c87b0); (try clear c87b1); (try clear c88); (try clear c90); (try clear c92); (try clear hcz10); (try clear hcz14); (try clear hcz17); (try clear hcz22); (try clear hcz24); (try clear hcz28); (try clear hcz30); (try clear hcz32); (try clear hcz37); (try clear hcz39); (try clear hcz43); (try clear hcz45); (try clear hcz47); (try clear hcz49); (try clear hcz54); (try clear hcz57); (try clear hcz60); (try clear hcz63); (try clear hcz65); (try clear hcz71); (try clear hcz72); (try clear hcz79); (try clear hcz81); (try clear hcz83); (try clear hcz85); (try clear hcz89); (try clear hcz91); (try clear hcz93); (try clear hfz10); (try clear hfz14); (try clear hfz17); (try clear hfz22); (try clear hfz24); (try clear hfz28); (try clear hfz30); (try clear hfz32); (try clear hfz37); (try clear hfz39); (try clear hfz43); (try clear hfz45); (try clear hfz47); (try clear hfz49); (try clear hfz54); (try clear hfz57); (try clear hfz60); (try clear hfz63); (try clear hfz65); (try clear hfz71); (try clear hfz72); (try clear hfz79); (try clear hfz81); (try clear hfz83); (try clear hfz85); (try clear hfz89); (try clear hfz91); (try clear hfz93); (try clear p2); obtain ⟨kq, HA, HJ5, BK101, BK102, HB⟩ := hcut
  cases kq with
  | zero => exact absurd HA.out (by simp [circuit_gate.j3])
  | succ kj5 =>
   have H := HA.out; clear HA
   simp only [circuit_gate.j3] at H
   have HC94 := Aside0.mk H; clear H
   go_upto_if 114 with (fail)
   go_cut [2] (fun v2 wc => ∃ (kq : Nat) (x2_93 : Int), v2 = .int .i64 x2_93 ∧ Aside0 (circuit_gate.j4 kq x2_93 a0_0 a0_1 a0_2 a0_3 a0_4 l0_5 a1_0 a1_1 a1_2 a1_3 a1_4 = some (r1, r2)) ∧ Aside0 (kq ≤ kj5) ∧ Aside0 (wc.heap[gb101]? = some (.cells #[.int .i64 a0_0, .int .i64 a0_1, .int .i64 a0_2, .int .i64 a0_3, .int .i64 a0_4, (.slice A0_5 l0_5.length c0_5)] 24 (0, 0))) ∧ Aside0 (wc.heap[gb102]? = some (.cells #[.int .i64 a1_0, .int .i64 a1_1, .int .i64 a1_2, .int .i64 a1_3, .int .i64 a1_4] 105 (0, 0))) ∧ Aside0 (Below w.heap.size w wc))
   case first =>
    have H := HC94.out; clear HC94
    by_cases c95 : t104 = true
    ·subst c95
     have H1 : (circuit_gate.j4 kj5 (wrap64 (a2 + 1)) a0_0 a0_1 a0_2 a0_3 a0_4 l0_5 a1_0 a1_1 a1_2 a1_3 a1_4) = some (r1, r2) := by rw [if_pos rfl] at H; exact H
     clear H; have H := H1; clear H1; have H' := Aside0.mk H; clear H
     go_wp2
     go_meet
     case rel => exact ⟨_, (wrap64 (a2 + 1)), eqA, H', ⟨by have := HJ5.out; first | omega | exact Nat.le_refl _⟩, ⟨bkA BK101.out⟩, ⟨bkA BK102.out⟩, ⟨blA HB.out⟩⟩
    ·replace c95 := Bool.eq_false_iff.mpr c95; subst c95
     have H1 : (circuit_gate.j4 kj5 a2 a0_0 a0_1 a0_2 a0_3 a0_4 l0_5 a1_0 a1_1 a1_2 a1_3 a1_4) = some (r1, r2) := by rw [if_neg (show ¬ (false = true) by decide)] at H; exact H
     clear H; have H := H1; clear H1; have H' := Aside0.mk H; clear H
     go_wp2
     go_meet
     case rel => exact ⟨_, (a2), eqA, H', ⟨by have := HJ5.out; first | omega | exact Nat.le_refl _⟩, ⟨bkA BK101.out⟩, ⟨bkA BK102.out⟩, ⟨blA HB.out⟩⟩
   case rest =>
    clear HC94; (try clear c1); (try clear c2); (try clear p2); (try clear c3); (try clear c4); (try clear c5); (try clear c6); (try clear p6); (try clear c7); (try clear c8); (try clear c9); (try clear c11); (try clear c12); (try clear c12b0); (try clear c13); (try clear c15); (try clear c15b0); (try clear c16); (try clear c18); (try clear c19); (try clear c20); (try clear c21); (try clear c23); (try clear c25); (try clear c25b0); (try clear c25b1); (try clear c26); (try clear c27); (try clear c29); (try clear c31); (try clear c33); (try clear c33b0); (try clear c33b1); (try clear c34); (try clear c35); (try clear c36); (try clear c38); (try clear c40); (try clear c40b0); (try clear c40b1); (try clear c41); (try clear c42); (try clear c44); (try clear c46); (try clear c48); (try clear c50); (try clear c52); (try clear c52b0); (try clear c53); (try clear c55); (try clear c55b0); (try clear c56); (try clear c58); (try clear c58b0); (try clear c59); (try clear c61); (try clear c62); (try clear c64); (try clear p64); (try clear c66); (try clear c68); (try clear c68b0); (try clear c68b1); (try clear c70); (try clear c73); (try clear c74); (try clear c75); (try clear c75b0); (try clear c75b1); (try clear c76); (try clear c76b0); (try clear c76b1); (try clear c77); (try clear c77b0); (try clear c77b1); (try clear c78); (try clear c80); (try clear c82); (try clear c84); (try clear c86); (try clear c86b0); (try clear c86b1); (try clear c87); (try clear c87b0); (try clear c87b1); (try clear c88); (try clear c90); (try clear c92); (try clear c95); (try clear hcz10); (try clear hcz14); (try clear hcz17); (try clear hcz22); (try clear hcz24); (try clear hcz28); (try clear hcz30); (try clear hcz32); (try clear hcz37); (try clear hcz39); (try clear hcz43); (try clear hcz45); (try clear hcz47); (try clear hcz49); (try clear hcz54); (try clear hcz57); (try clear hcz60); (try clear hcz63); (try clear hcz65); (try clear hcz71); (try clear hcz72); (try clear hcz79); (try clear hcz81); (try clear hcz83); (try clear hcz85); (try clear hcz89); (try clear hcz91); (try clear hcz93); (try clear hfz10); (try clear hfz14); (try clear hfz17); (try clear hfz22); (try clear hfz24); (try clear hfz28); (try clear hfz30); (try clear hfz32); (try clear hfz37); (try clear hfz39); (try clear hfz43); (try clear hfz45); (try clear hfz47); (try clear hfz49); (try clear hfz54); (try clear hfz57); (try clear hfz60); (try clear hfz63); (try clear hfz65); (try clear hfz71); (try clear hfz72); (try clear hfz79); (try clear hfz81); (try clear hfz83); (try clear hfz85); (try clear hfz89); (try clear hfz91); (try clear hfz93); (try clear p2); (try clear p6); (try clear p64); obtain ⟨kq, x2_93, rfl, HA, HJ93, BK101, BK102, HB⟩ := hcut
    cases kq with
    | zero => exact absurd HA.out (by simp [circuit_gate.j4])
    | succ kj93 =>
     have H := HA.out; clear HA
     simp only [circuit_gate.j4] at H
     by_cases c96 : a1_0 = 7
     ·rw [if_pos c96] at H
      have c96b0 : (a1_0 == 7) = true := beq_iff_eq.mpr c96; have c96b1 : (a1_0 != 7) = false := bne_eq_false_iff_eq.mpr c96; clear c96
      by_cases c97 : 0 ≤ a0_2
      ·rw [if_pos c97] at H
       have c97b0 := eq_true c97; have c97b1 : decide (0 ≤ a0_2) = true := decide_eq_true c97; clear c97
       obtain ⟨ji98, hji98⟩ : ∃ j_ : Int, (shl .i64 1 a0_2) = j_ := ⟨_, rfl⟩
       replace H : (if (wrap64 (x2_93 + 1)) > (ji98) then (some (0, 2)) else (some (wrap64 (x2_93 + 1), 0))) = some (r1, r2) := by first | (rw [hji98] at H; exact H) | (simp only [hji98] at H ⊢; exact H)
       have hji98_ : (IntKind.i64.wrap (1 * 2 ^ min a0_2.toNat 64)) = ji98 := hji98; have hji98z : a0_2 ≤ 64 → (IntKind.i64.wrap (1 * 2 ^ a0_2.toNat)) = ji98 := shl_small hji98
       have hji98u : (IntKind.i64.wrap (2 ^ min a0_2.toNat 64)) = ji98 := by have h_ := hji98_; rw [Int.one_mul] at h_; exact h_
       have hji98v : a0_2 ≤ 64 → (IntKind.i64.wrap (2 ^ a0_2.toNat)) = ji98 := fun hle_ => by have h_ := hji98z hle_; rw [Int.one_mul] at h_; exact h_
       have hji98y : (wrap64 (1 * 2 ^ min a0_2.toNat 64)) = ji98 := (i64_w _).symm.trans hji98_
       have hji98x : a0_2 ≤ 64 → (wrap64 (1 * 2 ^ a0_2.toNat)) = ji98 := fun h_ => (i64_w _).symm.trans (hji98z h_)
       by_cases c99 : (wrap64 (x2_93 + 1)) > (ji98)
       ·rw [if_pos c99] at H
        have c99b0 : decide ((ji98) < (wrap64 (x2_93 + 1))) = true := decide_eq_true c99; clear c99
        simp only [Option.some.injEq, Prod.mk.injEq] at H
        obtain ⟨rfl, rfl⟩ := H; have hnb100 := NB102_101.out; have hnc100 := NB101_102.out
        have hcz101 := fun i => blk_cell BK102.out i
        have hfz101 := fun i => blk_frozen BK102.out i
        have hcz102 := fun i => blk_cell BK101.out i
        have hfz102 := fun i => blk_frozen BK101.out i
        go_wp2
        go_ret2
        exact ⟨by first | rfl | (simp [errW_none, errW_some] <;> rfl) | (simp only [← hji98]; first | rfl | (simp [errW_none, errW_some] <;> rfl)) | (simp [*, errW_none, errW_some] <;> rfl), blA HB.out⟩
       ·rw [if_neg c99] at H
        have c99b0 : decide ((ji98) < (wrap64 (x2_93 + 1))) = false := decide_eq_false c99; clear c99
        simp only [Option.some.injEq, Prod.mk.injEq] at H
        obtain ⟨rfl, rfl⟩ := H; have hnb103 := NB102_101.out; have hnc103 := NB101_102.out
        have hcz104 := fun i => blk_cell BK102.out i
        have hfz104 := fun i => blk_frozen BK102.out i
        have hcz105 := fun i => blk_cell BK101.out i
        have hfz105 := fun i => blk_frozen BK101.out i
        go_wp2
        go_ret2
        exact ⟨by first | rfl | (simp [errW_none, errW_some] <;> rfl) | (simp only [← hji98]; first | rfl | (simp [errW_none, errW_some] <;> rfl)) | (simp [*, errW_none, errW_some] <;> rfl), blA HB.out⟩
      ·rw [if_neg c97] at H
       exact absurd H (by simp)
     ·rw [if_neg c96] at H
      have c96b0 : (a1_0 == 7) = false := beq_eq_false_iff_ne.mpr c96; have c96b1 : (a1_0 != 7) = true := bne_iff_ne.mpr c96
      by_cases c106 : 0 ≤ a0_2
      ·rw [if_pos c106] at H
       have c106b0 := eq_true c106; have c106b1 : decide (0 ≤ a0_2) = true := decide_eq_true c106; clear c106
       obtain ⟨ji107, hji107⟩ : ∃ j_ : Int, (shl .i64 1 a0_2) = j_ := ⟨_, rfl⟩
       replace H : (if x2_93 > (ji107) then (some (0, 2)) else (some (x2_93, 0))) = some (r1, r2) := by first | (rw [hji107] at H; exact H) | (simp only [hji107] at H ⊢; exact H)
       have hji107_ : (IntKind.i64.wrap (1 * 2 ^ min a0_2.toNat 64)) = ji107 := hji107; have hji107z : a0_2 ≤ 64 → (IntKind.i64.wrap (1 * 2 ^ a0_2.toNat)) = ji107 := shl_small hji107
       have hji107u : (IntKind.i64.wrap (2 ^ min a0_2.toNat 64)) = ji107 := by have h_ := hji107_; rw [Int.one_mul] at h_; exact h_
       have hji107v : a0_2 ≤ 64 → (IntKind.i64.wrap (2 ^ a0_2.toNat)) = ji107 := fun hle_ => by have h_ := hji107z hle_; rw [Int.one_mul] at h_; exact h_
       have hji107y : (wrap64 (1 * 2 ^ min a0_2.toNat 64)) = ji107 := (i64_w _).symm.trans hji107_
       have hji107x : a0_2 ≤ 64 → (wrap64 (1 * 2 ^ a0_2.toNat)) = ji107 := fun h_ => (i64_w _).symm.trans (hji107z h_)
       by_cases c108 : x2_93 > (ji107)
       ·rw [if_pos c108] at H
        have c108b0 : decide ((ji107) < x2_93) = true := decide_eq_true c108; clear c108
        simp only [Option.some.injEq, Prod.mk.injEq] at H
        obtain ⟨rfl, rfl⟩ := H; have hnb109 := NB102_101.out; have hnc109 := NB101_102.out
        have hcz110 := fun i => blk_cell BK102.out i
        have hfz110 := fun i => blk_frozen BK102.out i
        have hcz111 := fun i => blk_cell BK101.out i
        have hfz111 := fun i => blk_frozen BK101.out i
        go_wp2
        go_ret2
        exact ⟨by first | rfl | (simp [errW_none, errW_some] <;> rfl) | (simp only [← hji107]; first | rfl | (simp [errW_none, errW_some] <;> rfl)) | (simp [*, errW_none, errW_some] <;> rfl), blA HB.out⟩
       ·rw [if_neg c108] at H
        have c108b0 : decide ((ji107) < x2_93) = false := decide_eq_false c108; clear c108
        simp only [Option.some.injEq, Prod.mk.injEq] at H
        obtain ⟨rfl, rfl⟩ := H; have hnb112 := NB102_101.out; have hnc112 := NB101_102.out
        have hcz113 := fun i => blk_cell BK102.out i
        have hfz113 := fun i => blk_frozen BK102.out i
        have hcz114 := fun i => blk_cell BK101.out i
        have hfz114 := fun i => blk_frozen BK101.out i
        go_wp2
        go_ret2
        exact ⟨by first | rfl | (simp [errW_none, errW_some] <;> rfl) | (simp only [← hji107]; first | rfl | (simp [errW_none, errW_some] <;> rfl)) | (simp [*, errW_none, errW_some] <;> rfl), blA HB.out⟩
      ·rw [if_neg c106] at H
       exact absurd H (by simp)
end Go.Proofs.Ythiiodgpdoljoaa.PLc
namespace Go.Proofs.Ythiiodgpdoljoaa.PLc
open Go.RowKit Go.Proofs.YthiiodgpdoljoaaW.PrintWords Go.Proofs.YthiiodgpdoljoaaW.PrintLast Go.Proofs.YthiiodgpdoljoaaW.PrintMore
attribute [local go_sem] max2_int min2_int max_two min_two max_three min_three max_four min_four   -- for this text's walks alone
set_option linter.unusedVariables false
set_option linter.unusedSimpArgs false
/-! ### circuit_look: function 64 -/
mutual
def circuit_look.j0 : Nat → Bool → Int → Int → Int → Int → Int → List (S105) → Option (Int × Int)
 | 0, _, _, _, _, _, _, _ => none
 | k + 1, x9, x109000, x109001, x109002, x109003, x109004, x109005 => if x9 = true then (some (0, 1)) else (if x109003 < 0 then (circuit_look.j1 k true x109000 x109001 x109002 x109003 x109004 x109005) else (if x109004 < 0 then (circuit_look.j1 k true x109000 x109001 x109002 x109003 x109004 x109005) else (if 0 ≤ x109002 then (if x109003 > (shl .i64 1 x109002) then (circuit_look.j1 k true x109000 x109001 x109002 x109003 x109004 x109005) else (circuit_look.j1 k (decide (x109004 > (wrap64 ((shl .i64 1 x109002) - x109003)))) x109000 x109001 x109002 x109003 x109004 x109005)) else (none))))
def circuit_look.j1 : Nat → Bool → Int → Int → Int → Int → Int → List (S105) → Option (Int × Int)
 | 0, _, _, _, _, _, _, _ => none
 | k + 1, x38, x109000, x109001, x109002, x109003, x109004, x109005 => if x38 = true then (some (0, 1)) else (if (x109005.length : Int) > 30 then (some (0, 2)) else (circuit_look.l0 k (wrap64 (x109003 + x109004)) x109005 (x109005.length : Int) 0 x109000 x109001 x109002 x109003 x109004 x109005))
def circuit_look.l0 : Nat → Int → List (S105) → Int → Int → Int → Int → Int → Int → Int → List (S105) → Option (Int × Int)
 | 0, _, _, _, _, _, _, _, _, _, _ => none
 | k + 1, x4, x77, x78, x79, x109000, x109001, x109002, x109003, x109004, x109005 => if x79 < x78 then (if 0 ≤ x79 then (if x79 < (x77.length : Int) then ((circuit_gate.f k x109000 x109001 x109002 x109003 x109004 x109005 ((rd_T105 x77 x79).f0) ((rd_T105 x77 x79).f1) ((rd_T105 x77 x79).f2) ((rd_T105 x77 x79).f3) ((rd_T105 x77 x79).f4) x4).bind fun bt111 => (if bt111.2 = 0 then (circuit_look.l0 k bt111.1 x77 x78 (wrap64 (x79 + 1)) x109000 x109001 x109002 x109003 x109004 x109005) else (some (0, bt111.2)))) else (none)) else (none)) else (some (x4, 0))
end
def circuit_look.f (k : Nat) (a0_0 : Int) (a0_1 : Int) (a0_2 : Int) (a0_3 : Int) (a0_4 : Int) (l0_5 : List (S105)) : Option (Int × Int) := if a0_0 < 0 then (circuit_look.j0 k true a0_0 a0_1 a0_2 a0_3 a0_4 l0_5) else (if a0_0 > 5 then (circuit_look.j0 k true a0_0 a0_1 a0_2 a0_3 a0_4 l0_5) else (if a0_1 < 0 then (circuit_look.j0 k true a0_0 a0_1 a0_2 a0_3 a0_4 l0_5) else (if a0_1 > 4 then (circuit_look.j0 k true a0_0 a0_1 a0_2 a0_3 a0_4 l0_5) else (if a0_2 < 0 then (circuit_look.j0 k true a0_0 a0_1 a0_2 a0_3 a0_4 l0_5) else (circuit_look.j0 k (decide (a0_2 > 6)) a0_0 a0_1 a0_2 a0_3 a0_4 l0_5)))))
theorem circuit_look.mono_l : ∀ k, (∀ y0 y1 y2 y3 y4 y5 y6, LeO (circuit_look.j0 k y0 y1 y2 y3 y4 y5 y6) (circuit_look.j0 (k + 1) y0 y1 y2 y3 y4 y5 y6)) ∧ (∀ y0 y1 y2 y3 y4 y5 y6, LeO (circuit_look.j1 k y0 y1 y2 y3 y4 y5 y6) (circuit_look.j1 (k + 1) y0 y1 y2 y3 y4 y5 y6)) ∧ (∀ y0 y1 y2 y3 y4 y5 y6 y7 y8 y9, LeO (circuit_look.l0 k y0 y1 y2 y3 y4 y5 y6 y7 y8 y9) (circuit_look.l0 (k + 1) y0 y1 y2 y3 y4 y5 y6 y7 y8 y9))
 | 0 => ⟨fun _ _ _ _ _ _ _ r h => by simp [circuit_look.j0] at h, fun _ _ _ _ _ _ _ r h => by simp [circuit_look.j1] at h, fun _ _ _ _ _ _ _ _ _ _ r h => by simp [circuit_look.l0] at h⟩
 | k + 1 => by
  obtain ⟨ih0, ih1, ih2⟩ := circuit_look.mono_l k
  refine ⟨?_, ?_, ?_⟩
  ·intro y0 y1 y2 y3 y4 y5 y6
   unfold circuit_look.j0
   repeat' first
   | (with_reducible exact ih0 _ _ _ _ _ _ _)
   | (with_reducible exact ih1 _ _ _ _ _ _ _)
   | (with_reducible exact ih2 _ _ _ _ _ _ _ _ _ _)
   | (with_reducible exact circuit_gate.mono _ _ _ _ _ _ _ _ _ _ _ _ _)
   | (with_reducible exact LeO.refl _)
   | (with_reducible exact LeO.none _)
   | (with_reducible refine LeO.ite ?_ ?_)
   | (with_reducible refine LeO.bind ?_ (fun _ => ?_))
   | exact ih0 _ _ _ _ _ _ _
   | exact ih1 _ _ _ _ _ _ _
   | exact ih2 _ _ _ _ _ _ _ _ _ _
   | exact circuit_gate.mono _ _ _ _ _ _ _ _ _ _ _ _ _
   | exact LeO.none _
   | refine LeO.ite ?_ ?_
   | refine LeO.bind ?_ (fun _ => ?_)
  ·intro y0 y1 y2 y3 y4 y5 y6
   unfold circuit_look.j1
   repeat' first
   | (with_reducible exact ih0 _ _ _ _ _ _ _)
   | (with_reducible exact ih1 _ _ _ _ _ _ _)
   | (with_reducible exact ih2 _ _ _ _ _ _ _ _ _ _)
   | (with_reducible exact circuit_gate.mono _ _ _ _ _ _ _ _ _ _ _ _ _)
   | (with_reducible exact LeO.refl _)
   | (with_reducible exact LeO.none _)
   | (with_reducible refine LeO.ite ?_ ?_)
   | (with_reducible refine LeO.bind ?_ (fun _ => ?_))
   | exact ih0 _ _ _ _ _ _ _
   | exact ih1 _ _ _ _ _ _ _
   | exact ih2 _ _ _ _ _ _ _ _ _ _
   | exact circuit_gate.mono _ _ _ _ _ _ _ _ _ _ _ _ _
   | exact LeO.none _
   | refine LeO.ite ?_ ?_
   | refine LeO.bind ?_ (fun _ => ?_)
  ·intro y0 y1 y2 y3 y4 y5 y6 y7 y8 y9
   unfold circuit_look.l0
   repeat' first
   | (with_reducible exact ih0 _ _ _ _ _ _ _)
   | (with_reducible exact ih1 _ _ _ _ _ _ _)
   | (with_reducible exact ih2 _ _ _ _ _ _ _ _ _ _)
   | (with_reducible exact circuit_gate.mono _ _ _ _ _ _ _ _ _ _ _ _ _)
   | (with_reducible exact LeO.refl _)
   | (with_reducible exact LeO.none _)
   | (with_reducible refine LeO.ite ?_ ?_)
   | (with_reducible refine LeO.bind ?_ (fun _ => ?_))
   | exact ih0 _ _ _ _ _ _ _
   | exact ih1 _ _ _ _ _ _ _
   | exact ih2 _ _ _ _ _ _ _ _ _ _
   | exact circuit_gate.mono _ _ _ _ _ _ _ _ _ _ _ _ _
   | exact LeO.none _
   | refine LeO.ite ?_ ?_
   | refine LeO.bind ?_ (fun _ => ?_)
theorem circuit_look.mono : ∀ a0 a1 a2 a3 a4 a5 k, LeO (circuit_look.f k a0 a1 a2 a3 a4 a5) (circuit_look.f (k + 1) a0 a1 a2 a3 a4 a5) := by
 intro a0 a1 a2 a3 a4 a5 k
 obtain ⟨ih0, ih1, ih2⟩ := circuit_look.mono_l k
 unfold circuit_look.f
 repeat' first
   | (with_reducible exact ih0 _ _ _ _ _ _ _)
   | (with_reducible exact ih1 _ _ _ _ _ _ _)
   | (with_reducible exact ih2 _ _ _ _ _ _ _ _ _ _)
   | (with_reducible exact circuit_gate.mono _ _ _ _ _ _ _ _ _ _ _ _ _)
   | (with_reducible exact LeO.refl _)
   | (with_reducible exact LeO.none _)
   | (with_reducible refine LeO.ite ?_ ?_)
   | (with_reducible refine LeO.bind ?_ (fun _ => ?_))
   | exact ih0 _ _ _ _ _ _ _
   | exact ih1 _ _ _ _ _ _ _
   | exact ih2 _ _ _ _ _ _ _ _ _ _
   | exact circuit_gate.mono _ _ _ _ _ _ _ _ _ _ _ _ _
   | exact LeO.none _
   | refine LeO.ite ?_ ?_
   | refine LeO.bind ?_ (fun _ => ?_)
set_option maxHeartbeats 8000000 in
set_option maxRecDepth 100000 in
theorem circuit_look.calls (k : Nat) (a0_0 : Int) (a0_1 : Int) (a0_2 : Int) (a0_3 : Int) (a0_4 : Int) (A0_5 : Option Addr) (c0_5 : Nat) (l0_5 : List (S105)) (r1 : Int) (r2 : Int) (w : World) (hr0_5 : Kd.C k105 w A0_5 l0_5.length l0_5) (hc0_5 : l0_5.length ≤ c0_5) (h : circuit_look.f k a0_0 a0_1 a0_2 a0_3 a0_4 l0_5 = some (r1, r2)) :
  Calls Try.prog 64 #[.agg #[.int .i64 a0_0, .int .i64 a0_1, .int .i64 a0_2, .int .i64 a0_3, .int .i64 a0_4, .slice A0_5 l0_5.length c0_5]] w fun e w' => e = .returned (.tuple #[.int .i64 r1, .int .i64 r2]) ∧ Below w.heap.size w w' := by
 have hu24 := Try.underlying24; have hu105 := Try.underlying105; have HR0_5 := Aside0.mk hr0_5; have HC0_5 := Aside0.mk hc0_5; clear hr0_5 hc0_5; have HB := Aside0.mk (Below.refl w.heap.size w)
 have H : (if a0_0 < 0 then (circuit_look.j0 k true a0_0 a0_1 a0_2 a0_3 a0_4 l0_5) else (if a0_0 > 5 then (circuit_look.j0 k true a0_0 a0_1 a0_2 a0_3 a0_4 l0_5) else (if a0_1 < 0 then (circuit_look.j0 k true a0_0 a0_1 a0_2 a0_3 a0_4 l0_5) else (if a0_1 > 4 then (circuit_look.j0 k true a0_0 a0_1 a0_2 a0_3 a0_4 l0_5) else (if a0_2 < 0 then (circuit_look.j0 k true a0_0 a0_1 a0_2 a0_3 a0_4 l0_5) else (circuit_look.j0 k (decide (a0_2 > 6)) a0_0 a0_1 a0_2 a0_3 a0_4 l0_5)))))) = some (r1, r2) := h
 clear h; have HC2 := Aside0.mk H; clear H
 go_enter Try.func64, Try.ntmps64
 go_upto_region 1 with (first | ((with_reducible refine gate_dst (N := 1) rfl ?_); refine box_event ?hg (N := 1) ?hd (cs := #[.int .i64 a0_0, .int .i64 a0_1, .int .i64 a0_2, .int .i64 a0_3, .int .i64 a0_4, .slice A0_5 l0_5.length c0_5]) (t := 24) ?hr ?_; (case hd => rfl); (case hg => rfl); (case hr => first | (go_simp; done) | (go_simp; rfl)); intro gb108 hg w3 hbox hb; have n0_ := Aside0.mk (below_step (blA HB.out) hb); have n1_ := Aside0.mk (hbox); have n2_ := Aside0.mk ((by rw [hg]; exact (below_size (blA HB.out)) : w.heap.size ≤ gb108)); have n3_ := Aside0.mk ((by rw [hg]; exact (below_size (blA HB.out)) : w.heap.size ≤ gb108)); clear HB; have HB := n0_; have BK108 := n1_; have GW108 := n2_; have GE108 := n3_; clear n0_ n1_ n2_ n3_; clear hb hbox hg))
 repeat (go_quiet (first | ((with_reducible refine gate_dst (N := 1) rfl ?_); refine box_event ?hg (N := 1) ?hd (cs := #[.int .i64 a0_0, .int .i64 a0_1, .int .i64 a0_2, .int .i64 a0_3, .int .i64 a0_4, .slice A0_5 l0_5.length c0_5]) (t := 24) ?hr ?_; (case hd => rfl); (case hg => rfl); (case hr => first | (go_simp; done) | (go_simp; rfl)); intro gb108 hg w3 hbox hb; have n0_ := Aside0.mk (below_step (blA HB.out) hb); have n1_ := Aside0.mk (hbox); have n2_ := Aside0.mk ((by rw [hg]; exact (below_size (blA HB.out)) : w.heap.size ≤ gb108)); have n3_ := Aside0.mk ((by rw [hg]; exact (below_size (blA HB.out)) : w.heap.size ≤ gb108)); clear HB; have HB := n0_; have BK108 := n1_; have GW108 := n2_; have GE108 := n3_; clear n0_ n1_ n2_ n3_; clear hb hbox hg)); go_upto_region 1 with (first | ((with_reducible refine gate_dst (N := 1) rfl ?_); refine box_event ?hg (N := 1) ?hd (cs := #[.int .i64 a0_0, .int .i64 a0_1, .int .i64 a0_2, .int .i64 a0_3, .int .i64 a0_4, .slice A0_5 l0_5.length c0_5]) (t := 24) ?hr ?_; (case hd => rfl); (case hg => rfl); (case hr => first | (go_simp; done) | (go_simp; rfl)); intro gb108 hg w3 hbox hb; have n0_ := Aside0.mk (below_step (blA HB.out) hb); have n1_ := Aside0.mk (hbox); have n2_ := Aside0.mk ((by rw [hg]; exact (below_size (blA HB.out)) : w.heap.size ≤ gb108)); have n3_ := Aside0.mk ((by rw [hg]; exact (below_size (blA HB.out)) : w.heap.size ≤ gb108)); clear HB; have HB := n0_; have BK108 := n1_; have GW108 := n2_; have GE108 := n3_; clear n0_ n1_ n2_ n3_; clear hb hbox hg)))
 (try simp only [Act.put, List.setIfInBounds_toArray, List.set_cons_zero, List.set_cons_succ])
 go_cut [9] (fun v9 wc => ∃ (kq : Nat) (x9_1 : Bool), v9 = .bool x9_1 ∧ Aside0 (circuit_look.j0 kq x9_1 a0_0 a0_1 a0_2 a0_3 a0_4 l0_5 = some (r1, r2)) ∧ Aside0 (kq ≤ k) ∧ Aside0 (wc.heap[gb108]? = some (.cells #[.int .i64 a0_0, .int .i64 a0_1, .int .i64 a0_2, .int .i64 a0_3, .int .i64 a0_4, (.slice A0_5 l0_5.length c0_5)] 24 (0, 0))) ∧ Aside0 (Below w.heap.size w wc))
 case first =>
  have H := HC2.out; clear HC2
  by_cases c4 : a0_0 < 0
  ·rw [if_pos c4] at H
   have c4b0 : decide (a0_0 < 0) = true := decide_eq_true c4; clear c4
   (first | rw [c4b0] | (simp only [i64_w, i32_w]; rw [c4b0]) | skip)
   have H' := Aside0.mk H; clear H
   have hcz5 := fun i => blk_cell BK108.out i
   have hfz5 := fun i => blk_frozen BK108.out i
   go_wp2
   repeat (go_quiet (fail); try go_wp2)
   go_meet
   case rel => exact ⟨_, (true), eqA, H', ⟨omA⟩, ⟨bkA BK108.out⟩, ⟨blA HB.out⟩⟩
  ·rw [if_neg c4] at H
   have c4b0 : decide (a0_0 < 0) = false := decide_eq_false c4; clear c4
   (first | rw [c4b0] | (simp only [i64_w, i32_w]; rw [c4b0]) | skip)
   by_cases c6 : a0_0 > 5
   ·rw [if_pos c6] at H
    have c6b0 : decide (5 < a0_0) = true := decide_eq_true c6; clear c6; have H' := Aside0.mk H; clear H
    have hcz7 := fun i => blk_cell BK108.out i
    have hfz7 := fun i => blk_frozen BK108.out i
    go_wp2
    repeat (go_quiet (fail); try go_wp2)
    go_meet
    case rel => exact ⟨_, (true), eqA, H', ⟨omA⟩, ⟨bkA BK108.out⟩, ⟨blA HB.out⟩⟩
   ·rw [if_neg c6] at H
    have c6b0 : decide (5 < a0_0) = false := decide_eq_false c6; clear c6
    by_cases c8 : a0_1 < 0
    ·rw [if_pos c8] at H
     have c8b0 : decide (a0_1 < 0) = true := decide_eq_true c8; clear c8; have H' := Aside0.mk H; clear H
     have hcz9 := fun i => blk_cell BK108.out i
     have hfz9 := fun i => blk_frozen BK108.out i
     go_wp2
     repeat (go_quiet (fail); try go_wp2)
     go_meet
     case rel => exact ⟨_, (true), eqA, H', ⟨omA⟩, ⟨bkA BK108.out⟩, ⟨blA HB.out⟩⟩
    ·rw [if_neg c8] at H
     have c8b0 : decide (a0_1 < 0) = false := decide_eq_false c8; clear c8
     by_cases c10 : a0_1 > 4
     ·rw [if_pos c10] at H
      have c10b0 : decide (4 < a0_1) = true := decide_eq_true c10; clear c10; have H' := Aside0.mk H; clear H
      have hcz11 := fun i => blk_cell BK108.out i
      have hfz11 := fun i => blk_frozen BK108.out i
      go_wp2
      repeat (go_quiet (fail); try go_wp2)
      go_meet
      case rel => exact ⟨_, (true), eqA, H', ⟨omA⟩, ⟨bkA BK108.out⟩, ⟨blA HB.out⟩⟩
     ·rw [if_neg c10] at H
      have c10b0 : decide (4 < a0_1) = false := decide_eq_false c10; clear c10
      by_cases c12 : a0_2 < 0
      ·rw [if_pos c12] at H
       have c12b0 : decide (a0_2 < 0) = true := decide_eq_true c12; clear c12; have H' := Aside0.mk H; clear H
       have hcz13 := fun i => blk_cell BK108.out i
       have hfz13 := fun i => blk_frozen BK108.out i
       go_wp2
       repeat (go_quiet (fail); try go_wp2)
       go_meet
       case rel => exact ⟨_, (true), eqA, H', ⟨omA⟩, ⟨bkA BK108.out⟩, ⟨blA HB.out⟩⟩
      ·rw [if_neg c12] at H
       have c12b0 : decide (a0_2 < 0) = false := decide_eq_false c12; clear c12; have H' := Aside0.mk H; clear H
       have hcz14 := fun i => blk_cell BK108.out i
       have hfz14 := fun i => blk_frozen BK108.out i
       go_wp2
       repeat (go_quiet (fail); try go_wp2)
       go_meet
       case rel => exact ⟨_, (decide (a0_2 > 6)), eqA, H', ⟨omA⟩, ⟨bkA BK108.out⟩, ⟨blA HB.out⟩⟩
 case rest =>
  clear HC2; (try clear c1); (try clear p2); (try clear c4); (try clear c4b0); (try clear c6); (try clear c6b0); (try clear c8); (try clear c8b0); (try clear c10); (try clear c10b0); (try clear c12); (try clear c12b0); (try clear hcz11); (try clear hcz13); (try clear hcz14); (try clear hcz5); (try clear hcz7); (try clear hcz9); (try clear hfz11); (try clear hfz13); (try clear hfz14); (try clear hfz5); (try clear hfz7); (try clear hfz9); obtain ⟨kq, x9_1, rfl, HA, HJ1, BK108, HB⟩ := hcut
  cases kq with
  | zero => exact absurd HA.out (by simp [circuit_look.j0])
  | succ kj1 =>
   have H := HA.out; clear HA
   simp only [circuit_look.j0] at H
   by_cases c15 : x9_1 = true
   ·subst c15
    have H1 : (some (0, 1)) = some (r1, r2) := by rw [if_pos rfl] at H; exact H
    clear H; have H := H1; clear H1
    simp only [Option.some.injEq, Prod.mk.injEq] at H
    obtain ⟨rfl, rfl⟩ := H
    go_wp2
    repeat (go_quiet (fail); try go_wp2)
    go_ret2
    exact ⟨by first | rfl | (simp [errW_none, errW_some] <;> rfl) | (simp [*, errW_none, errW_some] <;> rfl), blA HB.out⟩
   ·replace c15 := Bool.eq_false_iff.mpr c15; subst c15
    have H1 : (if a0_3 < 0 then (circuit_look.j1 kj1 true a0_0 a0_1 a0_2 a0_3 a0_4 l0_5) else (if a0_4 < 0 then (circuit_look.j1 kj1 true a0_0 a0_1 a0_2 a0_3 a0_4 l0_5) else (if 0 ≤ a0_2 then (if a0_3 > (shl .i64 1 a0_2) then (circuit_look.j1 kj1 true a0_0 a0_1 a0_2 a0_3 a0_4 l0_5) else (circuit_look.j1 kj1 (decide (a0_4 > (wrap64 ((shl .i64 1 a0_2) - a0_3)))) a0_0 a0_1 a0_2 a0_3 a0_4 l0_5)) else (none)))) = some (r1, r2) := by rw [if_neg (show ¬ (false = true) by decide)] at H; exact H
    clear H; have H := H1; clear H1; have HC16 := Aside0.mk H; clear H
    go_upto_region 3 with (fail)
    repeat (go_quiet (fail); go_upto_region 3 with (fail))
    go_cut [38] (fun v38 wc => ∃ (kq : Nat) (x38_15 : Bool), v38 = .bool x38_15 ∧ Aside0 (circuit_look.j1 kq x38_15 a0_0 a0_1 a0_2 a0_3 a0_4 l0_5 = some (r1, r2)) ∧ Aside0 (kq ≤ kj1) ∧ Aside0 (wc.heap[gb108]? = some (.cells #[.int .i64 a0_0, .int .i64 a0_1, .int .i64 a0_2, .int .i64 a0_3, .int .i64 a0_4, (.slice A0_5 l0_5.length c0_5)] 24 (0, 0))) ∧ Aside0 (Below w.heap.size w wc))
    case first =>
     have H := HC16.out; clear HC16
     by_cases c17 : a0_3 < 0
     ·rw [if_pos c17] at H
      have c17b0 : decide (a0_3 < 0) = true := decide_eq_true c17; clear c17
      (first | rw [c17b0] | (simp only [i64_w, i32_w]; rw [c17b0]) | skip)
      have H' := Aside0.mk H; clear H
      have hcz18 := fun i => blk_cell BK108.out i
      have hfz18 := fun i => blk_frozen BK108.out i
      go_wp2
      repeat (go_quiet (fail); try go_wp2)
      go_meet
      case rel => exact ⟨_, (true), eqA, H', ⟨by have := HJ1.out; first | omega | exact Nat.le_refl _⟩, ⟨bkA BK108.out⟩, ⟨blA HB.out⟩⟩
     ·rw [if_neg c17] at H
      have c17b0 : decide (a0_3 < 0) = false := decide_eq_false c17; clear c17
      (first | rw [c17b0] | (simp only [i64_w, i32_w]; rw [c17b0]) | skip)
      by_cases c19 : a0_4 < 0
      ·rw [if_pos c19] at H
       have c19b0 : decide (a0_4 < 0) = true := decide_eq_true c19; clear c19; have H' := Aside0.mk H; clear H
       have hcz20 := fun i => blk_cell BK108.out i
       have hfz20 := fun i => blk_frozen BK108.out i
       go_wp2
       repeat (go_quiet (fail); try go_wp2)
       go_meet
       case rel => exact ⟨_, (true), eqA, H', ⟨by have := HJ1.out; first | omega | exact Nat.le_refl _⟩, ⟨bkA BK108.out⟩, ⟨blA HB.out⟩⟩
      ·rw [if_neg c19] at H
       have c19b0 : decide (a0_4 < 0) = false := decide_eq_false c19; clear c19
       by_cases c21 : 0 ≤ a0_2
       ·rw [if_pos c21] at H
        have c21b0 := eq_true c21; have c21b1 : decide (0 ≤ a0_2) = true := decide_eq_true c21; clear c21
        obtain ⟨ji22, hji22⟩ : ∃ j_ : Int, (shl .i64 1 a0_2) = j_ := ⟨_, rfl⟩
        replace H : (if a0_3 > (ji22) then (circuit_look.j1 kj1 true a0_0 a0_1 a0_2 a0_3 a0_4 l0_5) else (circuit_look.j1 kj1 (decide (a0_4 > (wrap64 ((ji22) - a0_3)))) a0_0 a0_1 a0_2 a0_3 a0_4 l0_5)) = some (r1, r2) := by first | (rw [hji22] at H; exact H) | (simp only [hji22] at H ⊢; exact H)
        have hji22_ : (IntKind.i64.wrap (1 * 2 ^ min a0_2.toNat 64)) = ji22 := hji22; have hji22z : a0_2 ≤ 64 → (IntKind.i64.wrap (1 * 2 ^ a0_2.toNat)) = ji22 := shl_small hji22
        have hji22u : (IntKind.i64.wrap (2 ^ min a0_2.toNat 64)) = ji22 := by have h_ := hji22_; rw [Int.one_mul] at h_; exact h_
        have hji22v : a0_2 ≤ 64 → (IntKind.i64.wrap (2 ^ a0_2.toNat)) = ji22 := fun hle_ => by have h_ := hji22z hle_; rw [Int.one_mul] at h_; exact h_
        have hji22y : (wrap64 (1 * 2 ^ min a0_2.toNat 64)) = ji22 := (i64_w _).symm.trans hji22_
        have hji22x : a0_2 ≤ 64 → (wrap64 (1 * 2 ^ a0_2.toNat)) = ji22 := fun h_ => (i64_w _).symm.trans (hji22z h_)
        by_cases c23 : a0_3 > (ji22)
        ·rw [if_pos c23] at H
         have c23b0 : decide ((ji22) < a0_3) = true := decide_eq_true c23; clear c23; have H' := Aside0.mk H; clear H
         have hcz24 := fun i => blk_cell BK108.out i
         have hfz24 := fun i => blk_frozen BK108.out i
         go_wp2
         repeat (go_quiet (fail); try go_wp2)
         go_meet
         case rel => exact ⟨_, (true), eqA, H', ⟨by have := HJ1.out; first | omega | exact Nat.le_refl _⟩, ⟨bkA BK108.out⟩, ⟨blA HB.out⟩⟩
        ·rw [if_neg c23] at H
         have c23b0 : decide ((ji22) < a0_3) = false := decide_eq_false c23; clear c23
         have c25b0 := eq_true (of_decide_eq_true (by first | (with_reducible assumption) | assumption) : 0 ≤ a0_2)
         have H' := Aside0.mk H; clear H
         have hcz26 := fun i => blk_cell BK108.out i
         have hfz26 := fun i => blk_frozen BK108.out i
         go_wp2
         repeat (go_quiet (fail); try go_wp2)
         go_meet
         case rel => exact ⟨_, (decide (a0_4 > (wrap64 ((ji22) - a0_3)))), (by first | rfl | (simp; done) | (simp only [← hji22] <;> (first | rfl | simp)) | (simp [*]; done)), H', ⟨by have := HJ1.out; first | omega | exact Nat.le_refl _⟩, ⟨bkA BK108.out⟩, ⟨blA HB.out⟩⟩
       ·rw [if_neg c21] at H
        exact absurd H (by simp)
    case rest =>
     clear HC16; (try clear c1); (try clear c2); (try clear p2); (try clear c4); (try clear c4b0); (try clear c6); (try clear c6b0); (try clear p6); (try clear c8); (try clear c8b0); (try clear c10); (try clear c10b0); (try clear c12); (try clear c12b0); (try clear c15); (try clear c17); (try clear c17b0); (try clear c19); (try clear c19b0); (try clear c21); (try clear c21b0); (try clear c21b1); (try clear c23); (try clear c23b0); (try clear c25); (try clear c25b0); (try clear hcz11); (try clear hcz13); (try clear hcz14); (try clear hcz18); (try clear hcz20); (try clear hcz24); (try clear hcz26); (try clear hcz5); (try clear hcz7); (try clear hcz9); (try clear hfz11); (try clear hfz13); (try clear hfz14); (try clear hfz18); (try clear hfz20); (try clear hfz24); (try clear hfz26); (try clear hfz5); (try clear hfz7); (try clear hfz9); (try clear p2); obtain ⟨kq, x38_15, rfl, HA, HJ15, BK108, HB⟩ := hcut
     cases kq with
     | zero => exact absurd HA.out (by simp [circuit_look.j1])
     | succ kj15 =>
      have H := HA.out; clear HA
      simp only [circuit_look.j1] at H
      by_cases c27 : x38_15 = true
      ·subst c27
       have H1 : (some (0, 1)) = some (r1, r2) := by rw [if_pos rfl] at H; exact H
       clear H; have H := H1; clear H1
       simp only [Option.some.injEq, Prod.mk.injEq] at H
       obtain ⟨rfl, rfl⟩ := H
       go_wp2
       repeat (go_quiet (fail); try go_wp2)
       go_ret2
       exact ⟨by first | rfl | (simp [errW_none, errW_some] <;> rfl) | (simp [*, errW_none, errW_some] <;> rfl), blA HB.out⟩
      ·replace c27 := Bool.eq_false_iff.mpr c27; subst c27
       have H1 : (if (l0_5.length : Int) > 30 then (some (0, 2)) else (circuit_look.l0 kj15 (wrap64 (a0_3 + a0_4)) l0_5 (l0_5.length : Int) 0 a0_0 a0_1 a0_2 a0_3 a0_4 l0_5)) = some (r1, r2) := by rw [if_neg (show ¬ (false = true) by decide)] at H; exact H
       clear H; have H := H1; clear H1
       by_cases c28 : (l0_5.length : Int) > 30
       ·rw [if_pos c28] at H
        have c28b0 : decide (30 < (l0_5.length : Int)) = true := decide_eq_true c28
        have c28b1 : decide (30 < l0_5.length) = true := decide_eq_true (by omega)
        clear c28
        simp only [Option.some.injEq, Prod.mk.injEq] at H
        obtain ⟨rfl, rfl⟩ := H
        have hcz29 := fun i => blk_cell BK108.out i
        have hfz29 := fun i => blk_frozen BK108.out i
        go_wp2
        repeat (go_quiet (fail); try go_wp2)
        go_ret2
        exact ⟨by first | rfl | (simp [errW_none, errW_some] <;> rfl) | (simp [*, errW_none, errW_some] <;> rfl), blA HB.out⟩
       ·rw [if_neg c28] at H
        have c28b0 : decide (30 < (l0_5.length : Int)) = false := decide_eq_false c28
        have c28b1 : decide (30 < l0_5.length) = false := decide_eq_false (by omega)
        clear c28; have H' := Aside0.mk H; clear H
        have hcz30 := fun i => blk_cell BK108.out i
        have hfz30 := fun i => blk_frozen BK108.out i
        go_wp2
        repeat (go_quiet (fail); try go_wp2)
        go_loopg [4, 79] kj15 (fun kq v4 v79 w' => ∃ (x4_3 : Int) (x79_3 : Int), v4 = .int .i64 x4_3 ∧ v79 = .int .i64 x79_3 ∧ Aside0 (circuit_look.l0 kq x4_3 l0_5 (l0_5.length : Int) x79_3 a0_0 a0_1 a0_2 a0_3 a0_4 l0_5 = some (r1, r2)) ∧ Aside0 (kq ≤ kj15) ∧ Aside0 (w'.heap[gb108]? = some (.cells #[.int .i64 a0_0, .int .i64 a0_1, .int .i64 a0_2, .int .i64 a0_3, .int .i64 a0_4, (.slice A0_5 l0_5.length c0_5)] 24 (0, 0))) ∧ Aside0 (Below w.heap.size w w'))
        case atStart => exact ⟨(wrap64 (a0_3 + a0_4)), (0), eqA, eqA, H', ⟨Nat.le_refl _⟩, ⟨bkA BK108.out⟩, ⟨blA HB.out⟩⟩
        case round =>
         clear H'; (try clear c1); (try clear c2); (try clear p2); (try clear c4); (try clear c4b0); (try clear c6); (try clear c6b0); (try clear p6); (try clear c8); (try clear c8b0); (try clear c10); (try clear c10b0); (try clear c12); (try clear c12b0); (try clear c15); (try clear c17); (try clear c17b0); (try clear c19); (try clear c19b0); (try clear c21); (try clear c21b0); (try clear c21b1); (try clear c23); (try clear c23b0); (try clear c25); (try clear c25b0); (try clear c27); (try clear c28); (try clear c28b0); (try clear c28b1); (try clear hcz11); (try clear hcz13); (try clear hcz14); (try clear hcz18); (try clear hcz20); (try clear hcz24); (try clear hcz26); (try clear hcz29); (try clear hcz30); (try clear hcz5); (try clear hcz7); (try clear hcz9); (try clear hfz11); (try clear hfz13); (try clear hfz14); (try clear hfz18); (try clear hfz20); (try clear hfz24); (try clear hfz26); (try clear hfz29); (try clear hfz30); (try clear hfz5); (try clear hfz7); (try clear hfz9); (try clear p2); (try clear p6); obtain ⟨x4_3, x79_3, rfl, rfl, HA, HK3, BK108, HB⟩ := hrel
         cases gk with
         | zero => exact absurd HA.out (by simp [circuit_look.l0])
         | succ k3 =>
          have H := HA.out; clear HA
          simp only [circuit_look.l0] at H
          by_cases c31 : x79_3 < (l0_5.length : Int)
          ·rw [if_pos c31] at H
           have c31b0 : decide (x79_3 < (l0_5.length : Int)) = true := decide_eq_true c31; clear c31
           by_cases c32 : 0 ≤ x79_3
           ·rw [if_pos c32] at H
            have c32b0 : decide (0 ≤ x79_3) = true := decide_eq_true c32; clear c32
            by_cases c33 : x79_3 < (l0_5.length : Int)
            ·rw [if_pos c33] at H
             have c33b0 : decide (x79_3 < (l0_5.length : Int)) = true := decide_eq_true c33; clear c33; replace H := Option.bind_eq_some_iff.mp H
             obtain ⟨⟨t111, t112⟩, A340, H⟩ := H
             replace H : (if t112 = 0 then (circuit_look.l0 k3 t111 l0_5 (l0_5.length : Int) (wrap64 (x79_3 + 1)) a0_0 a0_1 a0_2 a0_3 a0_4 l0_5) else (some (0, t112))) = some (r1, r2) := H
             have A34 := Aside0.mk A340; clear A340
             by_cases c35 : t112 = 0
             ·rw [if_pos c35] at H
              have c35b0 : (t112 == 0) = true := beq_iff_eq.mpr c35; have c35b1 : (t112 != 0) = false := bne_eq_false_iff_eq.mpr c35; clear c35; have H' := Aside0.mk H; clear H
              have p109 : 0 ≤ (x79_3 : Int) := of_decide_eq_true (by first | (with_reducible assumption) | assumption)
              have q109 : x79_3 < (l0_5.length : Int) := of_decide_eq_true (by first | (with_reducible assumption) | assumption)
              obtain ⟨ad109, e109, hx109_0, hx109_1, hx109_2, hx109_3, hx109_4⟩ := at_T105 HR0_5.out x79_3 p109 q109
              cases e109
              replace hx109_0 := (HB.out.cell (World.block_lt_of_cell? w _ hx109_0)).trans hx109_0; replace hx109_1 := (HB.out.cell (World.block_lt_of_cell? w _ hx109_1)).trans hx109_1; replace hx109_2 := (HB.out.cell (World.block_lt_of_cell? w _ hx109_2)).trans hx109_2; replace hx109_3 := (HB.out.cell (World.block_lt_of_cell? w _ hx109_3)).trans hx109_3; replace hx109_4 := (HB.out.cell (World.block_lt_of_cell? w _ hx109_4)).trans hx109_4; replace p109 := eq_true p109; replace q109 := eq_true q109
              go_wp2_with (first | ((with_reducible refine gate_dst (N := 6) rfl ?_); refine box_event ?hg (N := 6) ?hd (cs := #[.int .i64 0, .int .i64 0, .int .i64 0, .int .i64 0, .int .i64 0]) (t := 105) ?hr ?_; (case hd => rfl); (case hg => rfl); (case hr => first | (go_simp; done) | (go_simp; rfl)); intro gb110 hg w36 hbox hb; have n0_ := Aside0.mk (blk_below (bkA BK108.out) hb); have n1_ := Aside0.mk (below_step (blA HB.out) hb); have n2_ := Aside0.mk (hbox); have n3_ := Aside0.mk ((by rw [hg]; exact (below_size (blA HB.out)) : w.heap.size ≤ gb110)); have n4_ := Aside0.mk ((by rw [hg]; exact (below_size (blA HB.out)) : w.heap.size ≤ gb110)); have n5_ := Aside0.mk ((by rw [hg]; exact Nat.ne_of_lt (blk_lt (bkA BK108.out)) : gb108 ≠ gb110)); have n6_ := Aside0.mk ((by rw [hg]; exact Nat.ne_of_gt (blk_lt (bkA BK108.out)) : gb110 ≠ gb108)); clear BK108; clear HB; have BK108 := n0_; have HB := n1_; have BK110 := n2_; have GW110 := n3_; have GE110 := n4_; have NB108_110 := n5_; have NB110_108 := n6_; clear n0_ n1_ n2_ n3_ n4_ n5_ n6_; clear hb hbox hg; have hnb37 := NB110_108.out; have hnc37 := NB108_110.out; have hcz38 := fun i => blk_cell BK110.out i; have hfz38 := fun i => blk_frozen BK110.out i; have hcz39 := fun i => blk_cell BK108.out i; have hfz39 := fun i => blk_frozen BK108.out i; ) | (go_at_call 94; (with_reducible refine (circuit_gate.calls k3 a0_0 a0_1 a0_2 a0_3 a0_4 _ _ l0_5 ((rd_T105 l0_5 x79_3).f0) ((rd_T105 l0_5 x79_3).f1) ((rd_T105 l0_5 x79_3).f2) ((rd_T105 l0_5 x79_3).f3) ((rd_T105 l0_5 x79_3).f4) x4_3 t111 t112 _ ?side1 ?side2 A34.out).mono ?_); (case side1 => exact Kd.C_below HR0_5.out (blA HB.out)); (case side2 => exact HC0_5.out); rintro e w40 ⟨rfl, hb⟩; have n0_ := Aside0.mk (blk_below (g := gb108) (o := .cells #[.int .i64 a0_0, .int .i64 a0_1, .int .i64 a0_2, .int .i64 a0_3, .int .i64 a0_4, .slice (some ad109) l0_5.length c0_5] 24 (0, 0)) (by refine bkA ?_; refine blk_far ?_ NB108_110.out _; refine bkA ?_; refine blk_far ?_ NB108_110.out _; refine bkA ?_; refine blk_far ?_ NB108_110.out _; refine bkA ?_; refine blk_far ?_ NB108_110.out _; refine bkA ?_; refine blk_far ?_ NB108_110.out _; refine bkA ?_; exact BK108.out) hb); have n1_ := Aside0.mk (blk_below (g := gb110) (o := .cells #[.int .i64 ((rd_T105 l0_5 x79_3).f0), .int .i64 ((rd_T105 l0_5 x79_3).f1), .int .i64 ((rd_T105 l0_5 x79_3).f2), .int .i64 ((rd_T105 l0_5 x79_3).f3), .int .i64 ((rd_T105 l0_5 x79_3).f4)] 105 (0, 0)) (by refine bkA ?_; refine blk_put (cs := #[.int .i64 ((rd_T105 l0_5 x79_3).f0), .int .i64 ((rd_T105 l0_5 x79_3).f1), .int .i64 ((rd_T105 l0_5 x79_3).f2), .int .i64 ((rd_T105 l0_5 x79_3).f3), .int .i64 0]) ?_ 4 _ rfl; refine bkA ?_; refine blk_put (cs := #[.int .i64 ((rd_T105 l0_5 x79_3).f0), .int .i64 ((rd_T105 l0_5 x79_3).f1), .int .i64 ((rd_T105 l0_5 x79_3).f2), .int .i64 0, .int .i64 0]) ?_ 3 _ rfl; refine bkA ?_; refine blk_put (cs := #[.int .i64 ((rd_T105 l0_5 x79_3).f0), .int .i64 ((rd_T105 l0_5 x79_3).f1), .int .i64 0, .int .i64 0, .int .i64 0]) ?_ 2 _ rfl; refine bkA ?_; refine blk_put (cs := #[.int .i64 ((rd_T105 l0_5 x79_3).f0), .int .i64 0, .int .i64 0, .int .i64 0, .int .i64 0]) ?_ 1 _ rfl; refine bkA ?_; refine blk_put (cs := #[.int .i64 0, .int .i64 0, .int .i64 0, .int .i64 0, .int .i64 0]) ?_ 0 _ rfl; refine bkA ?_; exact BK110.out) hb); have n2_ := Aside0.mk (below_step (blA HB.out) hb); clear BK108; clear BK110; clear HB; have BK108 := n0_; have BK110 := n1_; have HB := n2_; clear n0_ n1_ n2_; (try clear hb)))
              repeat (go_quiet (first | ((with_reducible refine gate_dst (N := 6) rfl ?_); refine box_event ?hg (N := 6) ?hd (cs := #[.int .i64 0, .int .i64 0, .int .i64 0, .int .i64 0, .int .i64 0]) (t := 105) ?hr ?_; (case hd => rfl); (case hg => rfl); (case hr => first | (go_simp; done) | (go_simp; rfl)); intro gb110 hg w36 hbox hb; have n0_ := Aside0.mk (blk_below (bkA BK108.out) hb); have n1_ := Aside0.mk (below_step (blA HB.out) hb); have n2_ := Aside0.mk (hbox); have n3_ := Aside0.mk ((by rw [hg]; exact (below_size (blA HB.out)) : w.heap.size ≤ gb110)); have n4_ := Aside0.mk ((by rw [hg]; exact (below_size (blA HB.out)) : w.heap.size ≤ gb110)); have n5_ := Aside0.mk ((by rw [hg]; exact Nat.ne_of_lt (blk_lt (bkA BK108.out)) : gb108 ≠ gb110)); have n6_ := Aside0.mk ((by rw [hg]; exact Nat.ne_of_gt (blk_lt (bkA BK108.out)) : gb110 ≠ gb108)); clear BK108; clear HB; have BK108 := n0_; have HB := n1_; have BK110 := n2_; have GW110 := n3_; have GE110 := n4_; have NB108_110 := n5_; have NB110_108 := n6_; clear n0_ n1_ n2_ n3_ n4_ n5_ n6_; clear hb hbox hg; have hnb37 := NB110_108.out; have hnc37 := NB108_110.out; have hcz38 := fun i => blk_cell BK110.out i; have hfz38 := fun i => blk_frozen BK110.out i; have hcz39 := fun i => blk_cell BK108.out i; have hfz39 := fun i => blk_frozen BK108.out i; ) | (go_at_call 94; (with_reducible refine (circuit_gate.calls k3 a0_0 a0_1 a0_2 a0_3 a0_4 _ _ l0_5 ((rd_T105 l0_5 x79_3).f0) ((rd_T105 l0_5 x79_3).f1) ((rd_T105 l0_5 x79_3).f2) ((rd_T105 l0_5 x79_3).f3) ((rd_T105 l0_5 x79_3).f4) x4_3 t111 t112 _ ?side1 ?side2 A34.out).mono ?_); (case side1 => exact Kd.C_below HR0_5.out (blA HB.out)); (case side2 => exact HC0_5.out); rintro e w40 ⟨rfl, hb⟩; have n0_ := Aside0.mk (blk_below (g := gb108) (o := .cells #[.int .i64 a0_0, .int .i64 a0_1, .int .i64 a0_2, .int .i64 a0_3, .int .i64 a0_4, .slice (some ad109) l0_5.length c0_5] 24 (0, 0)) (by refine bkA ?_; refine blk_far ?_ NB108_110.out _; refine bkA ?_; refine blk_far ?_ NB108_110.out _; refine bkA ?_; refine blk_far ?_ NB108_110.out _; refine bkA ?_; refine blk_far ?_ NB108_110.out _; refine bkA ?_; refine blk_far ?_ NB108_110.out _; refine bkA ?_; exact BK108.out) hb); have n1_ := Aside0.mk (blk_below (g := gb110) (o := .cells #[.int .i64 ((rd_T105 l0_5 x79_3).f0), .int .i64 ((rd_T105 l0_5 x79_3).f1), .int .i64 ((rd_T105 l0_5 x79_3).f2), .int .i64 ((rd_T105 l0_5 x79_3).f3), .int .i64 ((rd_T105 l0_5 x79_3).f4)] 105 (0, 0)) (by refine bkA ?_; refine blk_put (cs := #[.int .i64 ((rd_T105 l0_5 x79_3).f0), .int .i64 ((rd_T105 l0_5 x79_3).f1), .int .i64 ((rd_T105 l0_5 x79_3).f2), .int .i64 ((rd_T105 l0_5 x79_3).f3), .int .i64 0]) ?_ 4 _ rfl; refine bkA ?_; refine blk_put (cs := #[.int .i64 ((rd_T105 l0_5 x79_3).f0), .int .i64 ((rd_T105 l0_5 x79_3).f1), .int .i64 ((rd_T105 l0_5 x79_3).f2), .int .i64 0, .int .i64 0]) ?_ 3 _ rfl; refine bkA ?_; refine blk_put (cs := #[.int .i64 ((rd_T105 l0_5 x79_3).f0), .int .i64 ((rd_T105 l0_5 x79_3).f1), .int .i64 0, .int .i64 0, .int .i64 0]) ?_ 2 _ rfl; refine bkA ?_; refine blk_put (cs := #[.int .i64 ((rd_T105 l0_5 x79_3).f0), .int .i64 0, .int .i64 0, .int .i64 0, .int .i64 0]) ?_ 1 _ rfl; refine bkA ?_; refine blk_put (cs := #[.int .i64 0, .int .i64 0, .int .i64 0, .int .i64 0, .int .i64 0]) ?_ 0 _ rfl; refine bkA ?_; exact BK110.out) hb); have n2_ := Aside0.mk (below_step (blA HB.out) hb); clear BK108; clear BK110; clear HB; have BK108 := n0_; have BK110 := n1_; have HB := n2_; clear n0_ n1_ n2_; (try clear hb))); try go_wp2_with (first | ((with_reducible refine gate_dst (N := 6) rfl ?_); refine box_event ?hg (N := 6) ?hd (cs := #[.int .i64 0, .int .i64 0, .int .i64 0, .int .i64 0, .int .i64 0]) (t := 105) ?hr ?_; (case hd => rfl); (case hg => rfl); (case hr => first | (go_simp; done) | (go_simp; rfl)); intro gb110 hg w36 hbox hb; have n0_ := Aside0.mk (blk_below (bkA BK108.out) hb); have n1_ := Aside0.mk (below_step (blA HB.out) hb); have n2_ := Aside0.mk (hbox); have n3_ := Aside0.mk ((by rw [hg]; exact (below_size (blA HB.out)) : w.heap.size ≤ gb110)); have n4_ := Aside0.mk ((by rw [hg]; exact (below_size (blA HB.out)) : w.heap.size ≤ gb110)); have n5_ := Aside0.mk ((by rw [hg]; exact Nat.ne_of_lt (blk_lt (bkA BK108.out)) : gb108 ≠ gb110)); have n6_ := Aside0.mk ((by rw [hg]; exact Nat.ne_of_gt (blk_lt (bkA BK108.out)) : gb110 ≠ gb108)); clear BK108; clear HB; have BK108 := n0_; have HB := n1_; have BK110 := n2_; have GW110 := n3_; have GE110 := n4_; have NB108_110 := n5_; have NB110_108 := n6_; clear n0_ n1_ n2_ n3_ n4_ n5_ n6_; clear hb hbox hg; have hnb37 := NB110_108.out; have hnc37 := NB108_110.out; have hcz38 := fun i => blk_cell BK110.out i; have hfz38 := fun i => blk_frozen BK110.out i; have hcz39 := fun i => blk_cell BK108.out i; have hfz39 := fun i => blk_frozen BK108.out i; ) | (go_at_call 94; (with_reducible refine (circuit_gate.calls k3 a0_0 a0_1 a0_2 a0_3 a0_4 _ _ l0_5 ((rd_T105 l0_5 x79_3).f0) ((rd_T105 l0_5 x79_3).f1) ((rd_T105 l0_5 x79_3).f2) ((rd_T105 l0_5 x79_3).f3) ((rd_T105 l0_5 x79_3).f4) x4_3 t111 t112 _ ?side1 ?side2 A34.out).mono ?_); (case side1 => exact Kd.C_below HR0_5.out (blA HB.out)); (case side2 => exact HC0_5.out); rintro e w40 ⟨rfl, hb⟩; have n0_ := Aside0.mk (blk_below (g := gb108) (o := .cells #[.int .i64 a0_0, .int .i64 a0_1, .int .i64 a0_2, .int .i64 a0_3, .int .i64 a0_4, .slice (some ad109) l0_5.length c0_5] 24 (0, 0)) (by refine bkA ?_; refine blk_far ?_ NB108_110.out _; refine bkA ?_; refine blk_far ?_ NB108_110.out _; refine bkA ?_; refine blk_far ?_ NB108_110.out _; refine bkA ?_; refine blk_far ?_ NB108_110.out _; refine bkA ?_; refine blk_far ?_ NB108_110.out _; refine bkA ?_; exact BK108.out) hb); have n1_ := Aside0.mk (blk_below (g := gb110) (o := .cells #[.int .i64 ((rd_T105 l0_5 x79_3).f0), .int .i64 ((rd_T105 l0_5 x79_3).f1), .int .i64 ((rd_T105 l0_5 x79_3).f2), .int .i64 ((rd_T105 l0_5 x79_3).f3), .int .i64 ((rd_T105 l0_5 x79_3).f4)] 105 (0, 0)) (by refine bkA ?_; refine blk_put (cs := #[.int .i64 ((rd_T105 l0_5 x79_3).f0), .int .i64 ((rd_T105 l0_5 x79_3).f1), .int .i64 ((rd_T105 l0_5 x79_3).f2), .int .i64 ((rd_T105 l0_5 x79_3).f3), .int .i64 0]) ?_ 4 _ rfl; refine bkA ?_; refine blk_put (cs := #[.int .i64 ((rd_T105 l0_5 x79_3).f0), .int .i64 ((rd_T105 l0_5 x79_3).f1), .int .i64 ((rd_T105 l0_5 x79_3).f2), .int .i64 0, .int .i64 0]) ?_ 3 _ rfl; refine bkA ?_; refine blk_put (cs := #[.int .i64 ((rd_T105 l0_5 x79_3).f0), .int .i64 ((rd_T105 l0_5 x79_3).f1), .int .i64 0, .int .i64 0, .int .i64 0]) ?_ 2 _ rfl; refine bkA ?_; refine blk_put (cs := #[.int .i64 ((rd_T105 l0_5 x79_3).f0), .int .i64 0, .int .i64 0, .int .i64 0, .int .i64 0]) ?_ 1 _ rfl; refine bkA ?_; refine blk_put (cs := #[.int .i64 0, .int .i64 0, .int .i64 0, .int .i64 0, .int .i64 0]) ?_ 0 _ rfl; refine bkA ?_; exact BK110.out) hb); have n2_ := Aside0.mk (below_step (blA HB.out) hb); clear BK108; clear BK110; clear HB; have BK108 := n0_; have BK110 := n1_; have HB := n2_; clear n0_ n1_ n2_; (try clear hb))))
              go_roundg k3
              case measure => have := HJ1.out; have := HJ15.out; have := HK3.out; omega
              case rel => exact ⟨(t111), (wrap64 (x79_3 + 1)), eqA, eqA, H', ⟨by have := HJ1.out; have := HJ15.out; have := HK3.out; omega⟩, ⟨bkA BK108.out⟩, ⟨blA HB.out⟩⟩
             ·rw [if_neg c35] at H
              have c35b0 : (t112 == 0) = false := beq_eq_false_iff_ne.mpr c35; have c35b1 : (t112 != 0) = true := bne_iff_ne.mpr c35
              simp only [Option.some.injEq, Prod.mk.injEq] at H
              obtain ⟨rfl, rfl⟩ := H
              have p109 : 0 ≤ (x79_3 : Int) := of_decide_eq_true (by first | (with_reducible assumption) | assumption)
              have q109 : x79_3 < (l0_5.length : Int) := of_decide_eq_true (by first | (with_reducible assumption) | assumption)
              obtain ⟨ad109, e109, hx109_0, hx109_1, hx109_2, hx109_3, hx109_4⟩ := at_T105 HR0_5.out x79_3 p109 q109
              cases e109
              replace hx109_0 := (HB.out.cell (World.block_lt_of_cell? w _ hx109_0)).trans hx109_0; replace hx109_1 := (HB.out.cell (World.block_lt_of_cell? w _ hx109_1)).trans hx109_1; replace hx109_2 := (HB.out.cell (World.block_lt_of_cell? w _ hx109_2)).trans hx109_2; replace hx109_3 := (HB.out.cell (World.block_lt_of_cell? w _ hx109_3)).trans hx109_3; replace hx109_4 := (HB.out.cell (World.block_lt_of_cell? w _ hx109_4)).trans hx109_4; replace p109 := eq_true p109; replace q109 := eq_true q109
              go_wp2_with (first | ((with_reducible refine gate_dst (N := 6) rfl ?_); refine box_event ?hg (N := 6) ?hd (cs := #[.int .i64 0, .int .i64 0, .int .i64 0, .int .i64 0, .int .i64 0]) (t := 105) ?hr ?_; (case hd => rfl); (case hg => rfl); (case hr => first | (go_simp; done) | (go_simp; rfl)); intro gb110 hg w41 hbox hb; have n0_ := Aside0.mk (blk_below (bkA BK108.out) hb); have n1_ := Aside0.mk (below_step (blA HB.out) hb); have n2_ := Aside0.mk (hbox); have n3_ := Aside0.mk ((by rw [hg]; exact (below_size (blA HB.out)) : w.heap.size ≤ gb110)); have n4_ := Aside0.mk ((by rw [hg]; exact (below_size (blA HB.out)) : w.heap.size ≤ gb110)); have n5_ := Aside0.mk ((by rw [hg]; exact Nat.ne_of_lt (blk_lt (bkA BK108.out)) : gb108 ≠ gb110)); have n6_ := Aside0.mk ((by rw [hg]; exact Nat.ne_of_gt (blk_lt (bkA BK108.out)) : gb110 ≠ gb108)); clear BK108; clear HB; have BK108 := n0_; have HB := n1_; have BK110 := n2_; have GW110 := n3_; have GE110 := n4_; have NB108_110 := n5_; have NB110_108 := n6_; clear n0_ n1_ n2_ n3_ n4_ n5_ n6_; clear hb hbox hg; have hnb42 := NB110_108.out; have hnc42 := NB108_110.out; have hcz43 := fun i => blk_cell BK110.out i; have hfz43 := fun i => blk_frozen BK110.out i; have hcz44 := fun i => blk_cell BK108.out i; have hfz44 := fun i => blk_frozen BK108.out i; ) | (go_at_call 94; (with_reducible refine (circuit_gate.calls k3 a0_0 a0_1 a0_2 a0_3 a0_4 _ _ l0_5 ((rd_T105 l0_5 x79_3).f0) ((rd_T105 l0_5 x79_3).f1) ((rd_T105 l0_5 x79_3).f2) ((rd_T105 l0_5 x79_3).f3) ((rd_T105 l0_5 x79_3).f4) x4_3 t111 t112 _ ?side1 ?side2 A34.out).mono ?_); (case side1 => exact Kd.C_below HR0_5.out (blA HB.out)); (case side2 => exact HC0_5.out); rintro e w45 ⟨rfl, hb⟩; have n0_ := Aside0.mk (blk_below (g := gb108) (o := .cells #[.int .i64 a0_0, .int .i64 a0_1, .int .i64 a0_2, .int .i64 a0_3, .int .i64 a0_4, .slice (some ad109) l0_5.length c0_5] 24 (0, 0)) (by refine bkA ?_; refine blk_far ?_ NB108_110.out _; refine bkA ?_; refine blk_far ?_ NB108_110.out _; refine bkA ?_; refine blk_far ?_ NB108_110.out _; refine bkA ?_; refine blk_far ?_ NB108_110.out _; refine bkA ?_; refine blk_far ?_ NB108_110.out _; refine bkA ?_; exact BK108.out) hb); have n1_ := Aside0.mk (blk_below (g := gb110) (o := .cells #[.int .i64 ((rd_T105 l0_5 x79_3).f0), .int .i64 ((rd_T105 l0_5 x79_3).f1), .int .i64 ((rd_T105 l0_5 x79_3).f2), .int .i64 ((rd_T105 l0_5 x79_3).f3), .int .i64 ((rd_T105 l0_5 x79_3).f4)] 105 (0, 0)) (by refine bkA ?_; refine blk_put (cs := #[.int .i64 ((rd_T105 l0_5 x79_3).f0), .int .i64 ((rd_T105 l0_5 x79_3).f1), .int .i64 ((rd_T105 l0_5 x79_3).f2), .int .i64 ((rd_T105 l0_5 x79_3).f3), .int .i64 0]) ?_ 4 _ rfl; refine bkA ?_; refine blk_put (cs := #[.int .i64 ((rd_T105 l0_5 x79_3).f0), .int .i64 ((rd_T105 l0_5 x79_3).f1), .int .i64 ((rd_T105 l0_5 x79_3).f2), .int .i64 0, .int .i64 0]) ?_ 3 _ rfl; refine bkA ?_; refine blk_put (cs := #[.int .i64 ((rd_T105 l0_5 x79_3).f0), .int .i64 ((rd_T105 l0_5 x79_3).f1), .int .i64 0, .int .i64 0, .int .i64 0]) ?_ 2 _ rfl; refine bkA ?_; refine blk_put (cs := #[.int .i64 ((rd_T105 l0_5 x79_3).f0), .int .i64 0, .int .i64 0, .int .i64 0, .int .i64 0]) ?_ 1 _ rfl; refine bkA ?_; refine blk_put (cs := #[.int .i64 0, .int .i64 0, .int .i64 0, .int .i64 0, .int .i64 0]) ?_ 0 _ rfl; refine bkA ?_; exact BK110.out) hb); have n2_ := Aside0.mk (below_step (blA HB.out) hb); clear BK108; clear BK110; clear HB; have BK108 := n0_; have BK110 := n1_; have HB := n2_; clear n0_ n1_ n2_; (try clear hb)))
              repeat (go_quiet (first | ((with_reducible refine gate_dst (N := 6) rfl ?_); refine box_event ?hg (N := 6) ?hd (cs := #[.int .i64 0, .int .i64 0, .int .i64 0, .int .i64 0, .int .i64 0]) (t := 105) ?hr ?_; (case hd => rfl); (case hg => rfl); (case hr => first | (go_simp; done) | (go_simp; rfl)); intro gb110 hg w41 hbox hb; have n0_ := Aside0.mk (blk_below (bkA BK108.out) hb); have n1_ := Aside0.mk (below_step (blA HB.out) hb); have n2_ := Aside0.mk (hbox); have n3_ := Aside0.mk ((by rw [hg]; exact (below_size (blA HB.out)) : w.heap.size ≤ gb110)); have n4_ := Aside0.mk ((by rw [hg]; exact (below_size (blA HB.out)) : w.heap.size ≤ gb110)); have n5_ := Aside0.mk ((by rw [hg]; exact Nat.ne_of_lt (blk_lt (bkA BK108.out)) : gb108 ≠ gb110)); have n6_ := Aside0.mk ((by rw [hg]; exact Nat.ne_of_gt (blk_lt (bkA BK108.out)) : gb110 ≠ gb108)); clear BK108; clear HB; have BK108 := n0_; have HB := n1_; have BK110 := n2_; have GW110 := n3_; have GE110 := n4_; have NB108_110 := n5_; have NB110_108 := n6_; clear n0_ n1_ n2_ n3_ n4_ n5_ n6_; clear hb hbox hg; have hnb42 := NB110_108.out; have hnc42 := NB108_110.out; have hcz43 := fun i => blk_cell BK110.out i; have hfz43 := fun i => blk_frozen BK110.out i; have hcz44 := fun i => blk_cell BK108.out i; have hfz44 := fun i => blk_frozen BK108.out i; ) | (go_at_call 94; (with_reducible refine (circuit_gate.calls k3 a0_0 a0_1 a0_2 a0_3 a0_4 _ _ l0_5 ((rd_T105 l0_5 x79_3).f0) ((rd_T105 l0_5 x79_3).f1) ((rd_T105 l0_5 x79_3).f2) ((rd_T105 l0_5 x79_3).f3) ((rd_T105 l0_5 x79_3).f4) x4_3 t111 t112 _ ?side1 ?side2 A34.out).mono ?_); (case side1 => exact Kd.C_below HR0_5.out (blA HB.out)); (case side2 => exact HC0_5.out); rintro e w45 ⟨rfl, hb⟩; have n0_ := Aside0.mk (blk_below (g := gb108) (o := .cells #[.int .i64 a0_0, .int .i64 a0_1, .int .i64 a0_2, .int .i64 a0_3, .int .i64 a0_4, .slice (some ad109) l0_5.length c0_5] 24 (0, 0)) (by refine bkA ?_; refine blk_far ?_ NB108_110.out _; refine bkA ?_; refine blk_far ?_ NB108_110.out _; refine bkA ?_; refine blk_far ?_ NB108_110.out _; refine bkA ?_; refine blk_far ?_ NB108_110.out _; refine bkA ?_; refine blk_far ?_ NB108_110.out _; refine bkA ?_; exact BK108.out) hb); have n1_ := Aside0.mk (blk_below (g := gb110) (o := .cells #[.int .i64 ((rd_T105 l0_5 x79_3).f0), .int .i64 ((rd_T105 l0_5 x79_3).f1), .int .i64 ((rd_T105 l0_5 x79_3).f2), .int .i64 ((rd_T105 l0_5 x79_3).f3), .int .i64 ((rd_T105 l0_5 x79_3).f4)] 105 (0, 0)) (by refine bkA ?_; refine blk_put (cs := #[.int .i64 ((rd_T105 l0_5 x79_3).f0), .int .i64 ((rd_T105 l0_5 x79_3).f1), .int .i64 ((rd_T105 l0_5 x79_3).f2), .int .i64 ((rd_T105 l0_5 x79_3).f3), .int .i64 0]) ?_ 4 _ rfl; refine bkA ?_; refine blk_put (cs := #[.int .i64 ((rd_T105 l0_5 x79_3).f0), .int .i64 ((rd_T105 l0_5 x79_3).f1), .int .i64 ((rd_T105 l0_5 x79_3).f2), .int .i64 0, .int .i64 0]) ?_ 3 _ rfl; refine bkA ?_; refine blk_put (cs := #[.int .i64 ((rd_T105 l0_5 x79_3).f0), .int .i64 ((rd_T105 l0_5 x79_3).f1), .int .i64 0, .int .i64 0, .int .i64 0]) ?_ 2 _ rfl; refine bkA ?_; refine blk_put (cs := #[.int .i64 ((rd_T105 l0_5 x79_3).f0), .int .i64 0, .int .i64 0, .int .i64 0, .int .i64 0]) ?_ 1 _ rfl; refine bkA ?_; refine blk_put (cs := #[.int .i64 0, .int .i64 0, .int .i64 0, .int .i64 0, .int .i64 0]) ?_ 0 _ rfl; refine bkA ?_; exact BK110.out) hb); have n2_ := Aside0.mk (below_step (blA HB.out) hb); clear BK108; clear BK110; clear HB; have BK108 := n0_; have BK110 := n1_; have HB := n2_; clear n0_ n1_ n2_; (try clear hb))); try go_wp2_with (first | ((with_reducible refine gate_dst (N := 6) rfl ?_); refine box_event ?hg (N := 6) ?hd (cs := #[.int .i64 0, .int .i64 0, .int .i64 0, .int .i64 0, .int .i64 0]) (t := 105) ?hr ?_; (case hd => rfl); (case hg => rfl); (case hr => first | (go_simp; done) | (go_simp; rfl)); intro gb110 hg w41 hbox hb; have n0_ := Aside0.mk (blk_below (bkA BK108.out) hb); have n1_ := Aside0.mk (below_step (blA HB.out) hb); have n2_ := Aside0.mk (hbox); have n3_ := Aside0.mk ((by rw [hg]; exact (below_size (blA HB.out)) : w.heap.size ≤ gb110)); have n4_ := Aside0.mk ((by rw [hg]; exact (below_size (blA HB.out)) : w.heap.size ≤ gb110)); have n5_ := Aside0.mk ((by rw [hg]; exact Nat.ne_of_lt (blk_lt (bkA BK108.out)) : gb108 ≠ gb110)); have n6_ := Aside0.mk ((by rw [hg]; exact Nat.ne_of_gt (blk_lt (bkA BK108.out)) : gb110 ≠ gb108)); clear BK108; clear HB; have BK108 := n0_; have HB := n1_; have BK110 := n2_; have GW110 := n3_; have GE110 := n4_; have NB108_110 := n5_; have NB110_108 := n6_; clear n0_ n1_ n2_ n3_ n4_ n5_ n6_; clear hb hbox hg; have hnb42 := NB110_108.out; have hnc42 := NB108_110.out; have hcz43 := fun i => blk_cell BK110.out i; have hfz43 := fun i => blk_frozen BK110.out i; have hcz44 := fun i => blk_cell BK108.out i; have hfz44 := fun i => blk_frozen BK108.out i; ) | (go_at_call 94; (with_reducible refine (circuit_gate.calls k3 a0_0 a0_1 a0_2 a0_3 a0_4 _ _ l0_5 ((rd_T105 l0_5 x79_3).f0) ((rd_T105 l0_5 x79_3).f1) ((rd_T105 l0_5 x79_3).f2) ((rd_T105 l0_5 x79_3).f3) ((rd_T105 l0_5 x79_3).f4) x4_3 t111 t112 _ ?side1 ?side2 A34.out).mono ?_); (case side1 => exact Kd.C_below HR0_5.out (blA HB.out)); (case side2 => exact HC0_5.out); rintro e w45 ⟨rfl, hb⟩; have n0_ := Aside0.mk (blk_below (g := gb108) (o := .cells #[.int .i64 a0_0, .int .i64 a0_1, .int .i64 a0_2, .int .i64 a0_3, .int .i64 a0_4, .slice (some ad109) l0_5.length c0_5] 24 (0, 0)) (by refine bkA ?_; refine blk_far ?_ NB108_110.out _; refine bkA ?_; refine blk_far ?_ NB108_110.out _; refine bkA ?_; refine blk_far ?_ NB108_110.out _; refine bkA ?_; refine blk_far ?_ NB108_110.out _; refine bkA ?_; refine blk_far ?_ NB108_110.out _; refine bkA ?_; exact BK108.out) hb); have n1_ := Aside0.mk (blk_below (g := gb110) (o := .cells #[.int .i64 ((rd_T105 l0_5 x79_3).f0), .int .i64 ((rd_T105 l0_5 x79_3).f1), .int .i64 ((rd_T105 l0_5 x79_3).f2), .int .i64 ((rd_T105 l0_5 x79_3).f3), .int .i64 ((rd_T105 l0_5 x79_3).f4)] 105 (0, 0)) (by refine bkA ?_; refine blk_put (cs := #[.int .i64 ((rd_T105 l0_5 x79_3).f0), .int .i64 ((rd_T105 l0_5 x79_3).f1), .int .i64 ((rd_T105 l0_5 x79_3).f2), .int .i64 ((rd_T105 l0_5 x79_3).f3), .int .i64 0]) ?_ 4 _ rfl; refine bkA ?_; refine blk_put (cs := #[.int .i64 ((rd_T105 l0_5 x79_3).f0), .int .i64 ((rd_T105 l0_5 x79_3).f1), .int .i64 ((rd_T105 l0_5 x79_3).f2), .int .i64 0, .int .i64 0]) ?_ 3 _ rfl; refine bkA ?_; refine blk_put (cs := #[.int .i64 ((rd_T105 l0_5 x79_3).f0), .int .i64 ((rd_T105 l0_5 x79_3).f1), .int .i64 0, .int .i64 0, .int .i64 0]) ?_ 2 _ rfl; refine bkA ?_; refine blk_put (cs := #[.int .i64 ((rd_T105 l0_5 x79_3).f0), .int .i64 0, .int .i64 0, .int .i64 0, .int .i64 0]) ?_ 1 _ rfl; refine bkA ?_; refine blk_put (cs := #[.int .i64 0, .int .i64 0, .int .i64 0, .int .i64 0, .int .i64 0]) ?_ 0 _ rfl; refine bkA ?_; exact BK110.out) hb); have n2_ := Aside0.mk (below_step (blA HB.out) hb); clear BK108; clear BK110; clear HB; have BK108 := n0_; have BK110 := n1_; have HB := n2_; clear n0_ n1_ n2_; (try clear hb))))
              go_ret2
              exact ⟨by first | rfl | (simp [errW_none, errW_some] <;> rfl) | (simp [*, errW_none, errW_some] <;> rfl), blA HB.out⟩
            ·rw [if_neg c33] at H
             exact absurd H (by simp)
           ·rw [if_neg c32] at H
            exact absurd H (by simp)
          ·rw [if_neg c31] at H
           have c31b0 : decide (x79_3 < (l0_5.length : Int)) = false := decide_eq_false c31; clear c31
           simp only [Option.some.injEq, Prod.mk.injEq] at H
           obtain ⟨rfl, rfl⟩ := H
           go_wp2
           repeat (go_quiet (fail); try go_wp2)
           go_ret2
           exact ⟨by first | rfl | (simp [errW_none, errW_some] <;> rfl) | (simp [*, errW_none, errW_some] <;> rfl), blA HB.out⟩
end Go.Proofs.Ythiiodgpdoljoaa.PLc
namespace Go.Proofs.Ythiiodgpdoljoaa.PLc
open Go.RowKit Go.Proofs.YthiiodgpdoljoaaW.PrintWords Go.Proofs.YthiiodgpdoljoaaW.PrintLast Go.Proofs.YthiiodgpdoljoaaW.PrintMore
attribute [local go_sem] max2_int min2_int max_two min_two max_three min_three max_four min_four   -- for this text's walks alone
set_option linter.unusedVariables false
set_option linter.unusedSimpArgs false
/-! ### steepleref15_Two: function 32 -/
def steepleref15_Two.l0 : Nat → Int → Int → Int → Option (Int)
 | 0, _, _, _ => none
 | k + 1, x0, x3, x4 => if x4 < x0 then (steepleref15_Two.l0 k x0 (wrap64 (2 * x3)) (wrap64 (x4 + 1))) else (some x3)
def steepleref15_Two.f (k : Nat) (a0 : Int) : Option (Int) := steepleref15_Two.l0 k a0 1 0
theorem steepleref15_Two.mono_l : ∀ k, (∀ y0 y1 y2, LeO (steepleref15_Two.l0 k y0 y1 y2) (steepleref15_Two.l0 (k + 1) y0 y1 y2))
 | 0 => fun _ _ _ r h => by simp [steepleref15_Two.l0] at h
 | k + 1 => by
  have ih0 := steepleref15_Two.mono_l k
  ·intro y0 y1 y2
   unfold steepleref15_Two.l0
   repeat' first
   | (with_reducible exact ih0 _ _ _)
   | (with_reducible exact LeO.refl _)
   | (with_reducible exact LeO.none _)
   | (with_reducible refine LeO.ite ?_ ?_)
   | (with_reducible refine LeO.bind ?_ (fun _ => ?_))
   | exact ih0 _ _ _
   | exact LeO.none _
   | refine LeO.ite ?_ ?_
   | refine LeO.bind ?_ (fun _ => ?_)
theorem steepleref15_Two.mono : ∀ a0 k, LeO (steepleref15_Two.f k a0) (steepleref15_Two.f (k + 1) a0) := by
 intro a0 k
 have ih0 := steepleref15_Two.mono_l k
 unfold steepleref15_Two.f
 repeat' first
   | (with_reducible exact ih0 _ _ _)
   | (with_reducible exact LeO.refl _)
   | (with_reducible exact LeO.none _)
   | (with_reducible refine LeO.ite ?_ ?_)
   | (with_reducible refine LeO.bind ?_ (fun _ => ?_))
   | exact ih0 _ _ _
   | exact LeO.none _
   | refine LeO.ite ?_ ?_
   | refine LeO.bind ?_ (fun _ => ?_)
set_option maxHeartbeats 8000000 in
set_option maxRecDepth 100000 in
theorem steepleref15_Two.calls (k : Nat) (a0 : Int) (r : Int) (w : World) (h : steepleref15_Two.f k a0 = some r) :
  Calls Try.prog 32 #[.int .i64 a0] w fun e w' => e = .returned (.int .i64 r) ∧ Drawn0 w w' := by
 have H : (steepleref15_Two.l0 k a0 1 0) = some r := h; clear h; have H' := Aside0.mk H; clear H
 go_enter Try.func32, Try.ntmps32
 go_wp2
 go_loopg [3, 4] k (fun kq v3 v4 w' => ∃ (x3_1 : Int) (x4_1 : Int), v3 = .int .i64 x3_1 ∧ v4 = .int .i64 x4_1 ∧ Aside0 (steepleref15_Two.l0 kq a0 x3_1 x4_1 = some r) ∧ Aside0 (kq ≤ k) ∧ Drawn0 w w')
 case atStart => exact ⟨(1), (0), eqA, eqA, H', ⟨Nat.le_refl _⟩, dwA⟩
 case round =>
  clear H'
  obtain ⟨x3_1, x4_1, rfl, rfl, HA, HK1, ⟨m1, rfl⟩⟩ := hrel
  cases gk with
  | zero => exact absurd HA.out (by simp [steepleref15_Two.l0])
  | succ k1 =>
   have H := HA.out; clear HA
   simp only [steepleref15_Two.l0] at H
   by_cases c2 : x4_1 < a0
   ·rw [if_pos c2] at H
    have c2b0 : decide (x4_1 < a0) = true := decide_eq_true c2; clear c2; have H' := Aside0.mk H; clear H
    go_wp2
    go_roundg k1
    case measure => have := HK1.out; omega
    case rel => exact ⟨(wrap64 (2 * x3_1)), (wrap64 (x4_1 + 1)), eqA, eqA, H', ⟨by have := HK1.out; omega⟩, dwA⟩
   ·rw [if_neg c2] at H
    have c2b0 : decide (x4_1 < a0) = false := decide_eq_false c2; clear c2; obtain rfl := Option.some.inj H
    go_wp2
    go_ret
    exact ⟨eqA, dwA⟩
/-! ### steepleref18_Fits: function 56 -/
def steepleref18_Fits.f (k : Nat) (a0 : Int) (a1 : Int) (a2 : Int) : Option (Bool) := if a0 < 0 then (some false) else (if a0 > 3 then (some false) else (if a1 < 0 then (some false) else (if a1 > 6 then (some false) else (if a2 < 0 then (some false) else ((steepleref15_Two.f k a1).bind fun t144 => (if a2 ≥ t144 then (some false) else (if a0 = 0 then (some (a2 == 0)) else (some true))))))))
theorem steepleref18_Fits.mono : ∀ a0 a1 a2 k, LeO (steepleref18_Fits.f k a0 a1 a2) (steepleref18_Fits.f (k + 1) a0 a1 a2) := by
 intro a0 a1 a2 k
 unfold steepleref18_Fits.f
 repeat' first
   | (with_reducible exact steepleref15_Two.mono _ _)
   | (with_reducible exact LeO.refl _)
   | (with_reducible exact LeO.none _)
   | (with_reducible refine LeO.ite ?_ ?_)
   | (with_reducible refine LeO.bind ?_ (fun _ => ?_))
   | exact steepleref15_Two.mono _ _
   | exact LeO.none _
   | refine LeO.ite ?_ ?_
   | refine LeO.bind ?_ (fun _ => ?_)
set_option maxHeartbeats 8000000 in
set_option maxRecDepth 100000 in
theorem steepleref18_Fits.calls (k : Nat) (a0 : Int) (a1 : Int) (a2 : Int) (r : Bool) (w : World) (h : steepleref18_Fits.f k a0 a1 a2 = some r) :
  Calls Try.prog 56 #[.int .i64 a0, .int .i64 a1, .int .i64 a2] w fun e w' => e = .returned (.bool r) ∧ Drawn0 w w' := by
 have H : (if a0 < 0 then (some false) else (if a0 > 3 then (some false) else (if a1 < 0 then (some false) else (if a1 > 6 then (some false) else (if a2 < 0 then (some false) else ((steepleref15_Two.f k a1).bind fun t144 => (if a2 ≥ t144 then (some false) else (if a0 = 0 then (some (a2 == 0)) else (some true))))))))) = some r := h
 clear h
 by_cases c4 : a0 < 0
 ·rw [if_pos c4] at H
  have c4b0 : decide (a0 < 0) = true := decide_eq_true c4; clear c4; obtain rfl := Option.some.inj H
  go_enter Try.func56, Try.ntmps56
  go_wp2
  go_ret
  exact ⟨eqA, dwA⟩
 ·rw [if_neg c4] at H
  have c4b0 : decide (a0 < 0) = false := decide_eq_false c4; clear c4
  by_cases c5 : a0 > 3
  ·rw [if_pos c5] at H
   have c5b0 : decide (3 < a0) = true := decide_eq_true c5; clear c5; obtain rfl := Option.some.inj H
   go_enter Try.func56, Try.ntmps56
   go_wp2
   go_ret
   exact ⟨eqA, dwA⟩
  ·rw [if_neg c5] at H
   have c5b0 : decide (3 < a0) = false := decide_eq_false c5; clear c5
   by_cases c6 : a1 < 0
   ·rw [if_pos c6] at H
    have c6b0 : decide (a1 < 0) = true := decide_eq_true c6; clear c6; obtain rfl := Option.some.inj H
    go_enter Try.func56, Try.ntmps56
    go_wp2
    go_ret
    exact ⟨eqA, dwA⟩
   ·rw [if_neg c6] at H
    have c6b0 : decide (a1 < 0) = false := decide_eq_false c6; clear c6
    by_cases c7 : a1 > 6
    ·rw [if_pos c7] at H
     have c7b0 : decide (6 < a1) = true := decide_eq_true c7; clear c7; obtain rfl := Option.some.inj H
     go_enter Try.func56, Try.ntmps56
     go_wp2
     go_ret
     exact ⟨eqA, dwA⟩
    ·rw [if_neg c7] at H
     have c7b0 : decide (6 < a1) = false := decide_eq_false c7; clear c7
     by_cases c8 : a2 < 0
     ·rw [if_pos c8] at H
      have c8b0 : decide (a2 < 0) = true := decide_eq_true c8; clear c8; obtain rfl := Option.some.inj H
      go_enter Try.func56, Try.ntmps56
      go_wp2
      go_ret
      exact ⟨eqA, dwA⟩
     ·rw [if_neg c8] at H
      have c8b0 : decide (a2 < 0) = false := decide_eq_false c8; clear c8; replace H := Option.bind_eq_some_iff.mp H; obtain ⟨t144, A90, H⟩ := H
      (try dsimp only at H)
      have A9 := Aside0.mk A90; clear A90
      by_cases c10 : a2 ≥ t144
      ·rw [if_pos c10] at H
       have c10b0 : decide (t144 ≤ a2) = true := decide_eq_true c10; clear c10; obtain rfl := Option.some.inj H
       go_enter Try.func56, Try.ntmps56
       go_wp2_with (first | (go_at_call 32; (with_reducible refine (steepleref15_Two.calls k a1 t144 _ A9.out).mono ?_); rintro e w' ⟨rfl, ⟨nd, rfl⟩⟩))
       go_ret
       exact ⟨eqA, dwA⟩
      ·rw [if_neg c10] at H
       have c10b0 : decide (t144 ≤ a2) = false := decide_eq_false c10; clear c10
       by_cases c11 : a0 = 0
       ·rw [if_pos c11] at H
        have c11b0 : (a0 == 0) = true := beq_iff_eq.mpr c11; have c11b1 : (a0 != 0) = false := bne_eq_false_iff_eq.mpr c11; clear c11; obtain rfl := Option.some.inj H
        go_enter Try.func56, Try.ntmps56
        go_wp2_with (first | (go_at_call 32; (with_reducible refine (steepleref15_Two.calls k a1 t144 _ A9.out).mono ?_); rintro e w' ⟨rfl, ⟨nd, rfl⟩⟩))
        go_ret
        exact ⟨eqA, dwA⟩
       ·rw [if_neg c11] at H
        have c11b0 : (a0 == 0) = false := beq_eq_false_iff_ne.mpr c11; have c11b1 : (a0 != 0) = true := bne_iff_ne.mpr c11; obtain rfl := Option.some.inj H
        go_enter Try.func56, Try.ntmps56
        go_wp2_with (first | (go_at_call 32; (with_reducible refine (steepleref15_Two.calls k a1 t144 _ A9.out).mono ?_); rintro e w' ⟨rfl, ⟨nd, rfl⟩⟩))
        go_ret
        exact ⟨eqA, dwA⟩
/-! ### steepleref25_Makes: function 60 -/
def steepleref25_Makes.f (a0_0 : Int) (a0_1 : Int) (a0_2 : Int) (a0_3 : Int) (a0_4 : Int) : Option (Int) := if a0_0 = 8 then (some 0) else (if a0_0 = 7 then (some 2) else (some 1))
set_option maxHeartbeats 8000000 in
set_option maxRecDepth 100000 in
theorem steepleref25_Makes.calls (a0_0 : Int) (a0_1 : Int) (a0_2 : Int) (a0_3 : Int) (a0_4 : Int) (r : Int) (w : World) (h : steepleref25_Makes.f a0_0 a0_1 a0_2 a0_3 a0_4 = some r) :
  Calls Try.prog 60 #[.agg #[.int .i64 a0_0, .int .i64 a0_1, .int .i64 a0_2, .int .i64 a0_3, .int .i64 a0_4]] w fun e w' => e = .returned (.int .i64 r) ∧ Below w.heap.size w w' := by
 have hu106 := Try.underlying106; have HB := Aside0.mk (Below.refl w.heap.size w)
 have H : (if a0_0 = 8 then (some 0) else (if a0_0 = 7 then (some 2) else (some 1))) = some r := h
 clear h
 by_cases c2 : a0_0 = 8
 ·rw [if_pos c2] at H
  have c2b0 : (a0_0 == 8) = true := beq_iff_eq.mpr c2; have c2b1 : (a0_0 != 8) = false := bne_eq_false_iff_eq.mpr c2; clear c2; obtain rfl := Option.some.inj H
  go_enter Try.func60, Try.ntmps60
  go_wp2_with (first | ((with_reducible refine gate_dst (N := 1) rfl ?_); refine box_event ?hg (N := 1) ?hd (cs := #[.int .i64 a0_0, .int .i64 a0_1, .int .i64 a0_2, .int .i64 a0_3, .int .i64 a0_4]) (t := 106) ?hr ?_; (case hd => rfl); (case hg => rfl); (case hr => first | (go_simp; done) | (go_simp; rfl)); intro gb145 hg w3 hbox hb; have n0_ := Aside0.mk (below_step (blA HB.out) hb); have n1_ := Aside0.mk (hbox); have n2_ := Aside0.mk ((by rw [hg]; exact (below_size (blA HB.out)) : w.heap.size ≤ gb145)); have n3_ := Aside0.mk ((by rw [hg]; exact (below_size (blA HB.out)) : w.heap.size ≤ gb145)); clear HB; have HB := n0_; have BK145 := n1_; have GW145 := n2_; have GE145 := n3_; clear n0_ n1_ n2_ n3_; clear hb hbox hg; have hcz4 := fun i => blk_cell BK145.out i; have hfz4 := fun i => blk_frozen BK145.out i; ))
  go_ret
  exact ⟨by first | rfl | (simp [errW_none, errW_some] <;> rfl) | (simp [*, errW_none, errW_some] <;> rfl), blA HB.out⟩
 ·rw [if_neg c2] at H
  have c2b0 : (a0_0 == 8) = false := beq_eq_false_iff_ne.mpr c2; have c2b1 : (a0_0 != 8) = true := bne_iff_ne.mpr c2
  by_cases c5 : a0_0 = 7
  ·rw [if_pos c5] at H
   have c5b0 : (a0_0 == 7) = true := beq_iff_eq.mpr c5; have c5b1 : (a0_0 != 7) = false := bne_eq_false_iff_eq.mpr c5; clear c5; obtain rfl := Option.some.inj H
   go_enter Try.func60, Try.ntmps60
   go_wp2_with (first | ((with_reducible refine gate_dst (N := 1) rfl ?_); refine box_event ?hg (N := 1) ?hd (cs := #[.int .i64 a0_0, .int .i64 a0_1, .int .i64 a0_2, .int .i64 a0_3, .int .i64 a0_4]) (t := 106) ?hr ?_; (case hd => rfl); (case hg => rfl); (case hr => first | (go_simp; done) | (go_simp; rfl)); intro gb145 hg w6 hbox hb; have n0_ := Aside0.mk (below_step (blA HB.out) hb); have n1_ := Aside0.mk (hbox); have n2_ := Aside0.mk ((by rw [hg]; exact (below_size (blA HB.out)) : w.heap.size ≤ gb145)); have n3_ := Aside0.mk ((by rw [hg]; exact (below_size (blA HB.out)) : w.heap.size ≤ gb145)); clear HB; have HB := n0_; have BK145 := n1_; have GW145 := n2_; have GE145 := n3_; clear n0_ n1_ n2_ n3_; clear hb hbox hg; have hcz7 := fun i => blk_cell BK145.out i; have hfz7 := fun i => blk_frozen BK145.out i; ))
   go_ret
   exact ⟨by first | rfl | (simp [errW_none, errW_some] <;> rfl) | (simp [*, errW_none, errW_some] <;> rfl), blA HB.out⟩
  ·rw [if_neg c5] at H
   have c5b0 : (a0_0 == 7) = false := beq_eq_false_iff_ne.mpr c5; have c5b1 : (a0_0 != 7) = true := bne_iff_ne.mpr c5; obtain rfl := Option.some.inj H
   go_enter Try.func60, Try.ntmps60
   go_wp2_with (first | ((with_reducible refine gate_dst (N := 1) rfl ?_); refine box_event ?hg (N := 1) ?hd (cs := #[.int .i64 a0_0, .int .i64 a0_1, .int .i64 a0_2, .int .i64 a0_3, .int .i64 a0_4]) (t := 106) ?hr ?_; (case hd => rfl); (case hg => rfl); (case hr => first | (go_simp; done) | (go_simp; rfl)); intro gb145 hg w8 hbox hb; have n0_ := Aside0.mk (below_step (blA HB.out) hb); have n1_ := Aside0.mk (hbox); have n2_ := Aside0.mk ((by rw [hg]; exact (below_size (blA HB.out)) : w.heap.size ≤ gb145)); have n3_ := Aside0.mk ((by rw [hg]; exact (below_size (blA HB.out)) : w.heap.size ≤ gb145)); clear HB; have HB := n0_; have BK145 := n1_; have GW145 := n2_; have GE145 := n3_; clear n0_ n1_ n2_ n3_; clear hb hbox hg; have hcz9 := fun i => blk_cell BK145.out i; have hfz9 := fun i => blk_frozen BK145.out i; ))
   go_ret
   exact ⟨by first | rfl | (simp [errW_none, errW_some] <;> rfl) | (simp [*, errW_none, errW_some] <;> rfl), blA HB.out⟩
/-! ### steepleref25_two: function 89 -/
def steepleref25_two.f (a0 : Int) : Option (Bool) := if a0 = 1 then (some true) else (if a0 = 2 then (some true) else (if a0 = 7 then (some true) else (some (a0 == 8))))
set_option maxHeartbeats 8000000 in
set_option maxRecDepth 100000 in
theorem steepleref25_two.calls (a0 : Int) (r : Bool) (w : World) (h : steepleref25_two.f a0 = some r) :
  Calls Try.prog 89 #[.int .i64 a0] w fun e w' => e = .returned (.bool r) ∧ Drawn0 w w' := by
 have H : (if a0 = 1 then (some true) else (if a0 = 2 then (some true) else (if a0 = 7 then (some true) else (some (a0 == 8))))) = some r := h
 clear h
 by_cases c2 : a0 = 1
 ·rw [if_pos c2] at H
  have c2b0 : (a0 == 1) = true := beq_iff_eq.mpr c2; have c2b1 : (a0 != 1) = false := bne_eq_false_iff_eq.mpr c2; clear c2; obtain rfl := Option.some.inj H
  go_enter Try.func89, Try.ntmps89
  go_wp2
  go_ret
  exact ⟨eqA, dwA⟩
 ·rw [if_neg c2] at H
  have c2b0 : (a0 == 1) = false := beq_eq_false_iff_ne.mpr c2; have c2b1 : (a0 != 1) = true := bne_iff_ne.mpr c2
  by_cases c3 : a0 = 2
  ·rw [if_pos c3] at H
   have c3b0 : (a0 == 2) = true := beq_iff_eq.mpr c3; have c3b1 : (a0 != 2) = false := bne_eq_false_iff_eq.mpr c3; clear c3; obtain rfl := Option.some.inj H
   go_enter Try.func89, Try.ntmps89
   go_wp2
   go_ret
   exact ⟨eqA, dwA⟩
  ·rw [if_neg c3] at H
   have c3b0 : (a0 == 2) = false := beq_eq_false_iff_ne.mpr c3; have c3b1 : (a0 != 2) = true := bne_iff_ne.mpr c3
   by_cases c4 : a0 = 7
   ·rw [if_pos c4] at H
    have c4b0 : (a0 == 7) = true := beq_iff_eq.mpr c4; have c4b1 : (a0 != 7) = false := bne_eq_false_iff_eq.mpr c4; clear c4; obtain rfl := Option.some.inj H
    go_enter Try.func89, Try.ntmps89
    go_wp2
    go_ret
    exact ⟨eqA, dwA⟩
   ·rw [if_neg c4] at H
    have c4b0 : (a0 == 7) = false := beq_eq_false_iff_ne.mpr c4; have c4b1 : (a0 != 7) = true := bne_iff_ne.mpr c4; obtain rfl := Option.some.inj H
    go_enter Try.func89, Try.ntmps89
    go_wp2
    go_ret
    exact ⟨eqA, dwA⟩
end Go.Proofs.Ythiiodgpdoljoaa.PLc
namespace Go.Proofs.Ythiiodgpdoljoaa.PLc
open Go.RowKit Go.Proofs.YthiiodgpdoljoaaW.PrintWords Go.Proofs.YthiiodgpdoljoaaW.PrintLast Go.Proofs.YthiiodgpdoljoaaW.PrintMore
attribute [local go_sem] max2_int min2_int max_two min_two max_three min_three max_four min_four   -- for this text's walks alone
set_option linter.unusedVariables false
set_option linter.unusedSimpArgs false
/-! ### steepleref25_shifts: function 90 -/
def steepleref25_shifts.f (a0 : Int) : Option (Bool) := if a0 ≥ 4 then (some (decide (a0 ≤ 6))) else (some false)
set_option maxHeartbeats 8000000 in
set_option maxRecDepth 100000 in
theorem steepleref25_shifts.calls (a0 : Int) (r : Bool) (w : World) (h : steepleref25_shifts.f a0 = some r) :
  Calls Try.prog 90 #[.int .i64 a0] w fun e w' => e = .returned (.bool r) ∧ Drawn0 w w' := by
 have H : (if a0 ≥ 4 then (some (decide (a0 ≤ 6))) else (some false)) = some r := h
 clear h
 by_cases c2 : a0 ≥ 4
 ·rw [if_pos c2] at H
  have c2b0 : decide (4 ≤ a0) = true := decide_eq_true c2; clear c2; obtain rfl := Option.some.inj H
  go_enter Try.func90, Try.ntmps90
  go_wp2
  go_ret
  exact ⟨eqA, dwA⟩
 ·rw [if_neg c2] at H
  have c2b0 : decide (4 ≤ a0) = false := decide_eq_false c2; clear c2; obtain rfl := Option.some.inj H
  go_enter Try.func90, Try.ntmps90
  go_wp2
  go_ret
  exact ⟨eqA, dwA⟩
end Go.Proofs.Ythiiodgpdoljoaa.PLc
