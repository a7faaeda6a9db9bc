/-
  Plain library.
-/
import Derived.Test.YtkgnjpoafilicaaPbP
/-
  Plain library, part 33: what a claim reads of its arguments, az0 plain values.
-/
set_option linter.unusedVariables false
set_option linter.unusedSimpArgs false
namespace Go.Pb
open Go Go.RowKit

/-- Cells of the type read az0 a value. -/
def Reads (P : Program) (t : TypeId) {α : Type} (r : TR α) (n : Nat) : Prop := ∀ cs, HasC P n t cs → ∃ a, r.R a (valC P t cs)
section
variable {P : Program} {t : TypeId}
theorem val_one {d : TypeDesc} (h : P.underlying t = some d) (ha : aggD d = false) (c : PV) : valC P t [c] = c := by simp [valC, h, ha]
theorem val_agg {d : TypeDesc} (h : P.underlying t = some d) (ha : aggD d = true) (cs : List PV) : valC P t cs = .agg cs := by simp [valC, h, ha]
theorem reads_int (h : P.underlying t = some (.int .i64)) : ∀ n, Reads P t tI n
  | 0 => fun cs hc => hc.elim
  | n + 1 => fun cs hc => by
    simp only [HasC, h] at hc
    obtain ⟨m, rfl, _⟩ := hc
    exact ⟨m, by rw [val_one h rfl]; rfl⟩
theorem reads_bool (h : P.underlying t = some .bool) : ∀ n, Reads P t tB n
  | 0 => fun cs hc => hc.elim
  | n + 1 => fun cs hc => by
    simp only [HasC, h] at hc
    obtain ⟨m, rfl⟩ := hc
    exact ⟨m, by rw [val_one h rfl]; rfl⟩
theorem reads_u8 (h : P.underlying t = some (.int .u8)) : ∀ n, Reads P t tU8 n
  | 0 => fun cs hc => hc.elim
  | n + 1 => fun cs hc => by
    simp only [HasC, h] at hc
    obtain ⟨m, rfl, hw⟩ := hc
    have hw : 0 ≤ m ∧ m < 256 := by
      simp [Lit.wf, IntKind.min, IntKind.max, IntKind.signed, IntKind.bits] at hw; omega
    refine ⟨UInt8.ofNat m.toNat, ?_⟩
    rw [val_one h rfl]
    show PV.sc (.int .u8 m) = vu8 _
    congr 2
    simp [UInt8.toNat_ofNat']; omega
theorem reads_u32 (h : P.underlying t = some (.int .u32)) : ∀ n, Reads P t tU32 n
  | 0 => fun cs hc => hc.elim
  | n + 1 => fun cs hc => by
    simp only [HasC, h] at hc
    obtain ⟨m, rfl, hw⟩ := hc
    have hw : 0 ≤ m ∧ m < 4294967296 := by
      simp [Lit.wf, IntKind.min, IntKind.max, IntKind.signed, IntKind.bits] at hw; omega
    refine ⟨BitVec.ofNat 32 m.toNat, ?_⟩
    rw [val_one h rfl]
    show PV.sc (.int .u32 m) = vu32 _
    congr 2
    simp [BitVec.toNat_ofNat]; omega
theorem reads_string (h : P.underlying t = some .string) : ∀ n, Reads P t tS n
  | 0 => fun cs hc => hc.elim
  | n + 1 => fun cs hc => by
    simp only [HasC, h] at hc
    obtain ⟨s, rfl, _⟩ := hc
    exact ⟨s.data.toList, by rw [val_one h rfl]; rfl⟩
theorem reads_slice {e : TypeId} {α : Type} {r : TR α} (h : P.underlying t = some (.slice e)) {n : Nat} (hr : Reads P e r n) : Reads P t (tSl r) (n + 1) := fun cs hc => by
  simp only [HasC, h] at hc
  rcases hc with ⟨ad, rfl⟩ | ⟨L, rfl, hl, h2⟩
  · rw [val_one h rfl]; exact ⟨[], ⟨[], .inl ⟨ad, rfl, rfl⟩, trivial⟩, by simp⟩
  · rw [val_one h rfl]
    obtain ⟨l, hl2⟩ := slOf_of (R := r.R) (P := P) (e := e) L fun ds hds => hr ds (h2 ds hds).2
    refine ⟨l, ⟨_, .inr ⟨false, rfl⟩, hl2⟩, ?_⟩
    have := hl2.length
    rw [List.length_map] at this
    rw [← this]; exact hl
theorem reads_slices {e : TypeId} {α : Type} {r : TR α} (h : P.underlying t = some (.slice e)) (hr : ∀ n, Reads P e r n) : ∀ n, Reads P t (tSl r) n
  | 0 => fun cs hc => hc.elim
  | n + 1 => reads_slice h (hr n)
theorem reads_struct {fs : Array Field} {n : Nat} {cs : List PV} (h : P.underlying t = some (.struct fs)) (hc : HasC P (n + 1) t cs) : cs.length = P.cellsOf t ∧ ∀ f ∈ fs.toList, HasC P n f.type ((cs.drop f.offset).take (P.cellsOf f.type)) := by
  simpa only [HasC, h] using hc
theorem cells_one' {v : PV} {n : Nat} (h1 : cnt v = some n) (h2 : v.isAgg = false) : v.cellsOf = some [v] := by
  cases v <;> first | rfl | (cases h2; done) | (cases h1; done)
theorem rowCells_of {α : Type} {r : TR α} {e : TypeId} {n sz : Nat} (hr : Reads P e r n) {d : TypeDesc} (he : P.underlying e = some d) (hsz : r.sz = sz) : ∀ (k : Nat) (cs : List PV), cs.length = k * sz → (∀ i, i < k → HasC P n e ((cs.drop (i * sz)).take sz)) → ∃ (l : List α) (es : List PV), l.length = k ∧ All2 r.R l es ∧ rowCells es = some cs
  | 0, cs, hl, _ => by
    have : cs = [] := List.eq_nil_of_length_eq_zero (by simpa using hl)
    subst this
    exact ⟨[], [], rfl, trivial, rfl⟩
  | k + 1, cs, hl, hc => by
    have h0 := hc 0 (by omega)
    rw [Nat.zero_mul, List.drop_zero] at h0
    obtain ⟨a, ha⟩ := hr _ h0
    have hl' : (cs.drop sz).length = k * sz := by rw [List.length_drop, hl, Nat.succ_mul]; omega
    obtain ⟨l, es, h1, h2, h3⟩ := rowCells_of hr he hsz k (cs.drop sz) hl' fun i hi => by
      have := hc (i + 1) (by omega)
      rwa [show (i + 1) * sz = sz + i * sz by rw [Nat.succ_mul]; omega, ← List.drop_drop] at this
    refine ⟨a :: l, valC P e (cs.take sz) :: es, by simp [h1], ⟨ha, h2⟩, ?_⟩
    have h6 : (valC P e (cs.take sz)).cellsOf = some (cs.take sz) := by
      generalize cs.take sz = ds at h0 ha
      cases hd : aggD d with
      | true => rw [val_agg he hd]; rfl
      | false =>
        obtain ⟨c, rfl⟩ := h0.one he hd
        rw [val_one he hd] at ha ⊢
        exact cells_one' (r.cnt ha) (h0.flatCell he hd)
    rw [rowCells, h6, h3]
    simp
theorem reads_array {k : Nat} {e : TypeId} {α : Type} {r : TR α} {d : TypeDesc} (h : P.underlying t = some (.array k e)) (he : P.underlying e = some d) (hsz : P.cellsOf e = r.sz) (ht : P.cellsOf t = k * r.sz) {n : Nat} (hr : Reads P e r n) : Reads P t (tAr k r) (n + 1) := fun cs hc => by
  simp only [HasC, h, hsz, ht] at hc
  obtain ⟨h1, h2⟩ := hc
  obtain ⟨l, es, h3, h4, h5⟩ := rowCells_of hr he rfl k cs h1 h2
  exact ⟨l, h3, es, cs, h4, h5, by rw [val_agg h rfl]⟩
theorem isArg_reads {α : Type} {r : TR α} (hr : ∀ n, Reads P t r n) {c : PV} (h : IsArg P t c) : ∃ a, r.R a c := by
  obtain ⟨n, cs, h1, rfl⟩ := h
  exact hr n cs h1
/-- One field of one cell. -/
theorem rF {α : Type} {r : TR α} {T n : Nat} {fs : List Field} {cs : List PV} {f : Field} {c : PV} {d : TypeDesc} (hr : ∀ n, Reads P T r n) (hf : ∀ f ∈ fs, HasC P n f.type ((cs.drop f.offset).take (P.cellsOf f.type))) (i : Nat) (hi : fs[i]? = some f) (hT : f.type = T) (hc : P.cellsOf T = 1) (e : (cs.drop f.offset).take 1 = [c]) (hu : P.underlying T = some d) (ha : aggD d = false) : ∃ a, r.R a c := by
  have q := hf _ (List.mem_of_getElem? hi)
  rw [hT, hc, e] at q
  obtain ⟨a, h⟩ := hr n _ q
  rw [val_one hu ha] at h
  exact ⟨a, h⟩
end
end Go.Pb
