/-
  Plain library, part 28: what it means that a data value holds a number, a text, a list, a record.
-/
import Derived.Test.YtkgnjpoafilicaaPbT
set_option linter.unusedVariables false
set_option linter.unusedSimpArgs false
namespace Go.Pb
open Go Go.RowKit

/-- Between Lean's values and data values. -/
structure TR (α : Type) where
  R : α → PV → Prop
  sz : Nat
  ag : Bool
  cnt : ∀ {a v}, R a v → Pb.cnt v = some sz
  agg : ∀ {a v}, R a v → v.isAgg = ag
  clo : ∀ {a v}, R a v → Pb.closed v = true

abbrev vu8 (b : UInt8) : PV := .sc (.int .u8 (b.toNat : Int))
abbrev vu32 (b : BitVec 32) : PV := .sc (.int .u32 (b.toNat : Int))
abbrev vu64 (b : BitVec 64) : PV := .sc (.int .u64 (b.toNat : Int))
abbrev vs (l : List UInt8) : PV := .sc (.string ⟨l.toArray⟩)

def tI : TR Int := ⟨fun n v => v = vi n, 1, false, fun h => by rw [h]; rfl, fun h => by rw [h]; rfl, fun h => by rw [h]; rfl⟩
def tB : TR Bool := ⟨fun n v => v = vb n, 1, false, fun h => by rw [h]; rfl, fun h => by rw [h]; rfl, fun h => by rw [h]; rfl⟩
def tU8 : TR UInt8 := ⟨fun n v => v = vu8 n, 1, false, fun h => by rw [h]; rfl, fun h => by rw [h]; rfl, fun h => by rw [h]; rfl⟩
def tU32 : TR (BitVec 32) := ⟨fun n v => v = vu32 n, 1, false, fun h => by rw [h]; rfl, fun h => by rw [h]; rfl, fun h => by rw [h]; rfl⟩
def tU64 : TR (BitVec 64) := ⟨fun n v => v = vu64 n, 1, false, fun h => by rw [h]; rfl, fun h => by rw [h]; rfl, fun h => by rw [h]; rfl⟩
def tS : TR (List UInt8) := ⟨fun n v => v = vs n, 1, false, fun h => by rw [h]; rfl, fun h => by rw [h]; rfl, fun h => by rw [h]; rfl⟩

def big : Nat := 9223372036854775807
def tSl {α : Type} (t : TR α) : TR (List α) := ⟨fun l v => SlOf t.R l v ∧ l.length ≤ 9223372036854775807, 1, false, fun h => SlOf.cnt h.1, fun h => SlOf.agg h.1, fun h => SlOf.closed h.1 fun a e he => t.clo he⟩

def ix {α : Type} [Inhabited α] (l : List α) (i : Int) : α := l.getD i.toNat default
theorem ix_lt {α : Type} [Inhabited α] {l : List α} {i : Int} (h0 : 0 ≤ i) (h : i < l.length) : ix l i = l[i.toNat]'(by omega) := by
  simp [ix, List.getD_eq_getElem?_getD, show i.toNat < l.length by omega]
section
variable {α : Type} {t : TR α} {P : Program}
theorem sl_len {l : List α} {v : PV} (h : (tSl t).R l v) {ty e : TypeId} (ht : P.underlying ty = some (.slice e)) (ty' : TypeId) : biF P .len [ty].toArray ty' [v] = some (vi l.length) := SlOf.len h.1 ht ty'
theorem sl_bound {l : List α} {v : PV} (h : (tSl t).R l v) : (l.length : Int) ≤ 9223372036854775807 := by have := h.2; omega
theorem sl_idx [Inhabited α] {l : List α} {v : PV} {i : Int} (h : (tSl t).R l v) (h0 : 0 ≤ i) (h1 : i < l.length) : ∃ e, idxR t.sz v (vi i) = some (.fp e) ∧ t.R (ix l i) e := by
  obtain ⟨e, h2, h3⟩ := SlOf.idx h.1 (fun a e he => t.cnt he) (k := i.toNat) (by omega)
  refine ⟨e, ?_, by rw [ix_lt h0 h1]; exact h2⟩
  rwa [show ((i.toNat : Nat) : Int) = i by omega] at h3
theorem sl_nil : (tSl t).R [] nilS := ⟨⟨[], .inl ⟨none, rfl, rfl⟩, trivial⟩, by simp⟩
theorem sl_fs {l : List α} {es : List PV} {b : Bool} (h : All2 t.R l es) (hb : l.length ≤ 9223372036854775807) : (tSl t).R l (.fs b es) := ⟨⟨es, .inr ⟨b, rfl⟩, h⟩, hb⟩
end
theorem slI {l : List Int} {v : PV} {i : Int} (h : (tSl tI).R l v) (h0 : 0 ≤ i) (h1 : i < l.length) : idxR 1 v (vi i) = some (.fp (vi (ix l i))) := by
  obtain ⟨e, h2, h3⟩ := sl_idx h h0 h1
  have e1 : e = vi (ix l i) := h3
  rw [e1] at h2; exact h2
theorem clL_nil : closedL [] = true := rfl
theorem clL_cons {v : PV} {r : List PV} (h : closed v = true) (k : closedL r = true) : closedL (v :: r) = true := by simp [closedL, h, k]
theorem all_nil {sz : Nat} : ([] : List PV).all (fun v => cnt v == some sz) = true := rfl
theorem all_cons {v : PV} {r : List PV} {sz : Nat} (h : cnt v = some sz) (k : r.all (fun v => cnt v == some sz) = true) : (v :: r).all (fun v => cnt v == some sz) = true := by
  rw [List.all_cons, k, h]; simp

/-! What a typed program is read by -/
def LET {α β : Type} (e : α) (b : α → β) : β := b e
theorem let_ex {α β : Type} {e : α} {b : α → β} {r : β} (h : LET e b = r) : ∃ w, e = w ∧ b w = r := ⟨e, rfl, h⟩
theorem ite_t {α : Type} {b : Bool} {x y : α} (h : b = true) : (if b = true then x else y) = x := if_pos h
theorem ite_f {α : Type} {b : Bool} {x y : α} (h : b = false) : (if b = true then x else y) = y := if_neg (by simp [h])

/-! Conditions of more than one part -/
/-! Numbers -/
def wr (n : Int) : Int := IntKind.i64.wrap n
theorem wr_of {n : Int} (h1 : -9223372036854775808 ≤ n) (h2 : n < 9223372036854775808) : wr n = n := wrap_i64 h1 h2
section
variable {P : Program} {t : TypeId} {ox oy : Operand}
theorem i_add {a b : Int} : binF P .add t ox oy (vi a) (vi b) = some (vi (wr (a + b))) := bin_add ..
theorem i_sub {a b : Int} : binF P .sub t ox oy (vi a) (vi b) = some (vi (wr (a - b))) := bin_sub ..
theorem i_eql {a b : Int} : binF P .eql t ox oy (vi a) (vi b) = some (vb (decide (a = b))) := bin_eql ..
theorem i_neq {a b : Int} : binF P .neq t ox oy (vi a) (vi b) = some (vb (!decide (a = b))) := bin_neq ..
theorem i_lss {a b : Int} : binF P .lss t ox oy (vi a) (vi b) = some (vb (decide (a < b))) := bin_lss ..
theorem i_leq {a b : Int} : binF P .leq t ox oy (vi a) (vi b) = some (vb (decide (a ≤ b))) := bin_leq ..
theorem i_gtr {a b : Int} : binF P .gtr t ox oy (vi a) (vi b) = some (vb (decide (b < a))) := bin_gtr ..
theorem i_geq {a b : Int} : binF P .geq t ox oy (vi a) (vi b) = some (vb (decide (b ≤ a))) := bin_geq ..
theorem wrap_um {k : IntKind} (hk : k.signed = false) (n : Int) : k.wrap n = n % (2 ^ k.bits : Int) := by simp [IntKind.wrap, hk]

theorem ic {k : IntKind} {m n : Int} (h : m = n) : some (PV.sc (.int k m)) = some (PV.sc (.int k n)) := by rw [h]
theorem d_sub {a b : BitVec 64} : binF P .sub t ox oy (vu64 a) (vu64 b) = some (vu64 (a - b)) := by
  rw [bin_sub, wrap_um rfl]
  refine ic ?_
  rw [BitVec.toNat_sub]
  have := a.isLt; have := b.isLt
  simp only [IntKind.bits]
  omega
theorem d_mul {a b : BitVec 64} : binF P .mul t ox oy (vu64 a) (vu64 b) = some (vu64 (a * b)) := by
  rw [bin_mul, wrap_um rfl]; exact ic (by rw [BitVec.toNat_mul, Int.natCast_emod, Int.natCast_mul]; rfl)

theorem bin_sh {op : BinOp} {k k' : IntKind} {a b : Int} {c : Int} (h1 : ∀ k k' a b, binOp op t (.int k a) (.int k' b) = Op.shift op k a k' b) (hne : ∀ a b, eqGuard op t ox oy a b = (pure () : Sem Unit)) (h2 : Op.shift op k a k' b = pure (.int k c)) : binF P op t ox oy (.sc (.int k a)) (.sc (.int k' b)) = some (.sc (.int k c)) := by
  simp only [binF, toV, hne, h1, h2]
  rfl
theorem s_shr : ∀ k k' a b, binOp .shr t (.int k a) (.int k' b) = Op.shift .shr k a k' b := fun k k' a b => rfl
theorem shr_eq {n : Nat} (a : BitVec n) (b : Nat) : Int.fdiv (a.toNat : Int) (2 ^ min b n) = ((a >>> b).toNat : Int) := by
  rw [BitVec.toNat_ushiftRight, Nat.shiftRight_eq_div_pow, Int.fdiv_eq_ediv_of_nonneg _ (Int.pow_nonneg (by omega))]
  by_cases h : b ≤ n
  · rw [Nat.min_eq_left h]; push_cast; rfl
  · rw [Nat.min_eq_right (by omega), Nat.div_eq_of_lt (Nat.lt_of_lt_of_le a.isLt (Nat.pow_le_pow_right (by omega) (by omega)))]
    have := Nat.div_eq_of_lt a.isLt
    have e : ((a.toNat / 2 ^ n : Nat) : Int) = 0 := by rw [this]; rfl
    push_cast at e
    exact_mod_cast e
theorem w_shr {a : BitVec 32} {k : IntKind} {y : Int} (h : 0 ≤ y) : binF P .shr t ox oy (vu32 a) (.sc (.int k y)) = some (vu32 (a >>> y.toNat)) := bin_sh s_shr (fun _ _ => rfl) (by
  simp only [Op.shift]; rw [if_neg (by omega)]; exact congrArg (fun z => (pure (Value.int .u32 z) : Sem Value)) (shr_eq a y.toNat))
/-! From one kind of number to another -/
theorem conv_int {s d : TypeId} {ds : TypeDesc} {k k' : IntKind} {n : Int} (hs : P.underlying s = some ds) (hd : P.underlying d = some (.int k')) : convR P s d (.sc (.int k n)) = some (.sc (.int k' (k'.wrap n))) := by
  simp only [convR, toV, convert, underlying, program, bind, Sem.bind, Sem.instMonad, pure, pureRun, hs, hd]
  cases ds <;> rfl
theorem c_wi {s d : TypeId} {ds : TypeDesc} {a : BitVec 32} (hs : P.underlying s = some ds) (hd : P.underlying d = some (.int .i64)) : convR P s d (vu32 a) = some (vi (a.toNat : Int)) := by
  have := a.isLt
  rw [conv_int hs hd, wrap_i64 (by omega) (by omega)]
theorem c_dw {s d : TypeId} {ds : TypeDesc} {a : BitVec 64} (hs : P.underlying s = some ds) (hd : P.underlying d = some (.int .u32)) : convR P s d (vu64 a) = some (vu32 (a.setWidth 32)) := by
  rw [conv_int hs hd, wrap_um rfl]
  exact ic (by rw [BitVec.toNat_setWidth]; simp only [IntKind.bits]; omega)
/-! Texts -/
theorem str_len {l : List UInt8} {ty ty' : TypeId} (ht : P.underlying ty = some .string) : biF P .len [ty].toArray ty' [vs l] = some (vi l.length) := by
  have e : toVs [vs l] = some [.string ⟨l.toArray⟩] := rfl
  have e2 : pureRun P (Builtin.len_ [ty].toArray ty' [Value.string ⟨l.toArray⟩].toArray) = some (.int .i64 l.length) := by
    simp [Builtin.len_, underlying, program, pureRun, pure, bind, Sem.bind, Sem.instMonad, ht, goInt]
    rfl
  simp only [biF, e, e2]
  rfl
end

/-! Results of more than one part -/
def RT2 (A B : PV → Prop) (v : PV) : Prop := ∃ a b, v = .tup [a, b] ∧ A a ∧ B b
def RT3 (A B C : PV → Prop) (v : PV) : Prop := ∃ a b c, v = .tup [a, b, c] ∧ A a ∧ B b ∧ C c

/-! A function az0 a value -/
def tFn (P : Program) {α β : Type} (ta : TR α) (tb : TR β) : TR (α → β) := ⟨fun g v => ∃ id first cap, v = .fn (.func id) first cap ∧ closedL first = true ∧ closedL cap = true ∧ ∀ a va, ta.R a va → ∃ vr, FnR P id (first ++ ([va] ++ cap)) vr ∧ tb.R (g a) vr,
  1, false, fun h => by obtain ⟨_, _, _, rfl, _⟩ := h; rfl, fun h => by obtain ⟨_, _, _, rfl, _⟩ := h; rfl, fun h => by obtain ⟨_, _, _, rfl, h1, h2, _⟩ := h; simp [closed, h1, h2]⟩
/-! Pointers to memory that nobody writes any more -/
def tP {α : Type} (t : TR α) : TR (Option α) := ⟨fun o v => match o with | none => v = .sc (.pointer none) | some a => ∃ e, v = .fp e ∧ t.R a e, 1, false,
  fun {a v} h => by cases a with | none => rw [h]; rfl | some a => obtain ⟨e, rfl, _⟩ := h; rfl,
  fun {a v} h => by cases a with | none => rw [h]; rfl | some a => obtain ⟨e, rfl, _⟩ := h; rfl,
  fun {a v} h => by cases a with | none => rw [h]; rfl | some a => obtain ⟨e, rfl, h⟩ := h; simpa [closed] using t.clo h⟩

end Go.Pb
