/-
  Plain library, part 28: what it means that a data value holds a number, a text, a list, a record.
-/
import Derived.Test.YtkgnjpoafilicaaPbT
set_option linter.unusedVariables false
set_option linter.unusedSimpArgs false
namespace Go.Pb
open Go Go.RowKit

/-- Between Lean's values and data values. -/
structure TR (α : Type) where
  R : α → PV → Prop
  sz : Nat
  ag : Bool
  cnt : ∀ {a v}, R a v → Pb.cnt v = some sz
  agg : ∀ {a v}, R a v → v.isAgg = ag
  clo : ∀ {a v}, R a v → Pb.closed v = true

abbrev vu8 (b : UInt8) : PV := .sc (.int .u8 (b.toNat : Int))
abbrev vu32 (b : BitVec 32) : PV := .sc (.int .u32 (b.toNat : Int))
abbrev vu64 (b : BitVec 64) : PV := .sc (.int .u64 (b.toNat : Int))
abbrev vs (l : List UInt8) : PV := .sc (.string ⟨l.toArray⟩)

def tI : TR Int := ⟨fun n v => v = vi n, 1, false, fun h => by rw [h]; rfl, fun h => by rw [h]; rfl, fun h => by rw [h]; rfl⟩
def tB : TR Bool := ⟨fun n v => v = vb n, 1, false, fun h => by rw [h]; rfl, fun h => by rw [h]; rfl, fun h => by rw [h]; rfl⟩
def tU8 : TR UInt8 := ⟨fun n v => v = vu8 n, 1, false, fun h => by rw [h]; rfl, fun h => by rw [h]; rfl, fun h => by rw [h]; rfl⟩
def tU32 : TR (BitVec 32) := ⟨fun n v => v = vu32 n, 1, false, fun h => by rw [h]; rfl, fun h => by rw [h]; rfl, fun h => by rw [h]; rfl⟩
def tU64 : TR (BitVec 64) := ⟨fun n v => v = vu64 n, 1, false, fun h => by rw [h]; rfl, fun h => by rw [h]; rfl, fun h => by rw [h]; rfl⟩
def tS : TR (List UInt8) := ⟨fun n v => v = vs n, 1, false, fun h => by rw [h]; rfl, fun h => by rw [h]; rfl, fun h => by rw [h]; rfl⟩

def big : Nat := 9223372036854775807
def tSl {α : Type} (t : TR α) : TR (List α) := ⟨fun l v => SlOf t.R l v ∧ l.length ≤ 9223372036854775807, 1, false, fun h => SlOf.cnt h.1, fun h => SlOf.agg h.1, fun h => SlOf.closed h.1 fun a e he => t.clo he⟩

def ix {α : Type} [Inhabited α] (l : List α) (i : Int) : α := l.getD i.toNat default
theorem ix_lt {α : Type} [Inhabited α] {l : List α} {i : Int} (h0 : 0 ≤ i) (h : i < l.length) : ix l i = l[i.toNat]'(by omega) := by
  simp [ix, List.getD_eq_getElem?_getD, show i.toNat < l.length by omega]
theorem ix_nat {α : Type} [Inhabited α] {l : List α} {i : Nat} (h : i < l.length) : ix l (i : Int) = l[i] := by
  rw [ix_lt (by omega) (by omega)]; rfl

section
variable {α : Type} {t : TR α} {P : Program}
theorem sl_len {l : List α} {v : PV} (h : (tSl t).R l v) {ty e : TypeId} (ht : P.underlying ty = some (.slice e)) (ty' : TypeId) : biF P .len [ty].toArray ty' [v] = some (vi l.length) := SlOf.len h.1 ht ty'
theorem sl_bound {l : List α} {v : PV} (h : (tSl t).R l v) : (l.length : Int) ≤ 9223372036854775807 := by have := h.2; omega
theorem sl_idx [Inhabited α] {l : List α} {v : PV} {i : Int} (h : (tSl t).R l v) (h0 : 0 ≤ i) (h1 : i < l.length) : ∃ e, idxR t.sz v (vi i) = some (.fp e) ∧ t.R (ix l i) e := by
  obtain ⟨e, h2, h3⟩ := SlOf.idx h.1 (fun a e he => t.cnt he) (k := i.toNat) (by omega)
  refine ⟨e, ?_, by rw [ix_lt h0 h1]; exact h2⟩
  rwa [show ((i.toNat : Nat) : Int) = i by omega] at h3
theorem sl_nil : (tSl t).R [] nilS := ⟨⟨[], .inl ⟨none, rfl, rfl⟩, trivial⟩, by simp⟩
theorem sl_fs {l : List α} {es : List PV} {b : Bool} (h : All2 t.R l es) (hb : l.length ≤ 9223372036854775807) : (tSl t).R l (.fs b es) := ⟨⟨es, .inr ⟨b, rfl⟩, h⟩, hb⟩
end
theorem slI {l : List Int} {v : PV} {i : Int} (h : (tSl tI).R l v) (h0 : 0 ≤ i) (h1 : i < l.length) : idxR 1 v (vi i) = some (.fp (vi (ix l i))) := by
  obtain ⟨e, h2, h3⟩ := sl_idx h h0 h1
  have e1 : e = vi (ix l i) := h3
  rw [e1] at h2; exact h2
theorem slB {l : List Bool} {v : PV} {i : Int} (h : (tSl tB).R l v) (h0 : 0 ≤ i) (h1 : i < l.length) : idxR 1 v (vi i) = some (.fp (vb (ix l i))) := by
  obtain ⟨e, h2, h3⟩ := sl_idx h h0 h1
  have e1 : e = vb (ix l i) := h3
  rw [e1] at h2; exact h2
theorem slU8 {l : List UInt8} {v : PV} {i : Int} (h : (tSl tU8).R l v) (h0 : 0 ≤ i) (h1 : i < l.length) : idxR 1 v (vi i) = some (.fp (vu8 (ix l i))) := by
  obtain ⟨e, h2, h3⟩ := sl_idx h h0 h1
  have e1 : e = vu8 (ix l i) := h3
  rw [e1] at h2; exact h2
theorem slU32 {l : List (BitVec 32)} {v : PV} {i : Int} (h : (tSl tU32).R l v) (h0 : 0 ≤ i) (h1 : i < l.length) : idxR 1 v (vi i) = some (.fp (vu32 (ix l i))) := by
  obtain ⟨e, h2, h3⟩ := sl_idx h h0 h1
  have e1 : e = vu32 (ix l i) := h3
  rw [e1] at h2; exact h2

theorem clL_nil : closedL [] = true := rfl
theorem clL_cons {v : PV} {r : List PV} (h : closed v = true) (k : closedL r = true) : closedL (v :: r) = true := by simp [closedL, h, k]
theorem all_nil {sz : Nat} : ([] : List PV).all (fun v => cnt v == some sz) = true := rfl
theorem all_cons {v : PV} {r : List PV} {sz : Nat} (h : cnt v = some sz) (k : r.all (fun v => cnt v == some sz) = true) : (v :: r).all (fun v => cnt v == some sz) = true := by
  rw [List.all_cons, k, h]; simp

/-! What a typed program is read by -/
def LET {α β : Type} (e : α) (b : α → β) : β := b e
theorem let_ex {α β : Type} {e : α} {b : α → β} {r : β} (h : LET e b = r) : ∃ w, e = w ∧ b w = r := ⟨e, rfl, h⟩
theorem ite_t {α : Type} {b : Bool} {x y : α} (h : b = true) : (if b = true then x else y) = x := if_pos h
theorem ite_f {α : Type} {b : Bool} {x y : α} (h : b = false) : (if b = true then x else y) = y := if_neg (by simp [h])

/-! Conditions of more than one part -/
theorem pick_b' (b : Bool) (x y : PV) : pickR (vb b) x y = some (bif b then x else y) := rfl
theorem pick_or {b q : Bool} : pickR (vb b) (vb true) (gp (b = false) (vb q)) = some (vb (b || q)) := by cases b <;> simp [pickR, gp]
theorem pick_and {b q : Bool} : pickR (vb b) (gp (b = true) (vb q)) (vb false) = some (vb (b && q)) := by cases b <;> simp [pickR, gp]
theorem pick_or2 {b q : Bool} {p : Prop} [Decidable p] (hp : p) : pickR (vb b) (vb true) (gp (p ∧ b = false) (vb q)) = some (vb (b || q)) := by cases b <;> simp [pickR, gp, hp]
theorem pick_and2 {b q : Bool} {p : Prop} [Decidable p] (hp : p) : pickR (vb b) (gp (p ∧ b = true) (vb q)) (vb false) = some (vb (b && q)) := by cases b <;> simp [pickR, gp, hp]

/-! Numbers -/
def wr (n : Int) : Int := IntKind.i64.wrap n
theorem wr_of {n : Int} (h1 : -9223372036854775808 ≤ n) (h2 : n < 9223372036854775808) : wr n = n := wrap_i64 h1 h2
theorem wr_range (n : Int) : -9223372036854775808 ≤ wr n ∧ wr n < 9223372036854775808 := by
  simp only [wr, IntKind.wrap, IntKind.bits, IntKind.signed]
  by_cases h : n % 2 ^ 64 ≥ 2 ^ (64 - 1)
  · simp [h]; omega
  · simp [h]; omega
section
variable {P : Program} {t : TypeId} {ox oy : Operand}
theorem i_add {a b : Int} : binF P .add t ox oy (vi a) (vi b) = some (vi (wr (a + b))) := bin_add ..
theorem i_sub {a b : Int} : binF P .sub t ox oy (vi a) (vi b) = some (vi (wr (a - b))) := bin_sub ..
theorem i_mul {a b : Int} : binF P .mul t ox oy (vi a) (vi b) = some (vi (wr (a * b))) := bin_mul ..
theorem i_quo {a b : Int} (h : b ≠ 0) : binF P .quo t ox oy (vi a) (vi b) = some (vi (wr (a.tdiv b))) := bin_quo _ _ _ _ _ _ _ h
theorem i_rem {a b : Int} (h : b ≠ 0) : binF P .rem t ox oy (vi a) (vi b) = some (vi (a.tmod b)) := bin_rem _ _ _ _ _ _ _ h
theorem i_eql {a b : Int} : binF P .eql t ox oy (vi a) (vi b) = some (vb (decide (a = b))) := bin_eql ..
theorem i_neq {a b : Int} : binF P .neq t ox oy (vi a) (vi b) = some (vb (!decide (a = b))) := bin_neq ..
theorem i_lss {a b : Int} : binF P .lss t ox oy (vi a) (vi b) = some (vb (decide (a < b))) := bin_lss ..
theorem i_leq {a b : Int} : binF P .leq t ox oy (vi a) (vi b) = some (vb (decide (a ≤ b))) := bin_leq ..
theorem i_gtr {a b : Int} : binF P .gtr t ox oy (vi a) (vi b) = some (vb (decide (b < a))) := bin_gtr ..
theorem i_geq {a b : Int} : binF P .geq t ox oy (vi a) (vi b) = some (vb (decide (b ≤ a))) := bin_geq ..
/-- A counter. -/
theorem i_inc {n : Nat} (h : (n : Int) < 9223372036854775807) : binF P .add t ox oy (vi (n : Int)) (vi 1) = some (vi ((n + 1 : Nat) : Int)) := by
  rw [i_add, wr_of (by omega) (by omega)]; rfl

theorem wrap_u {k : IntKind} (hk : k.signed = false) (n : Nat) (h : n < 2 ^ k.bits) : k.wrap (n : Int) = n := by
  have e : ((n : Int) % (2 ^ k.bits : Int)) = n := Int.emod_eq_of_lt (by omega) (by exact_mod_cast h)
  simp [IntKind.wrap, hk, e]
theorem wrap_um {k : IntKind} (hk : k.signed = false) (n : Int) : k.wrap n = n % (2 ^ k.bits : Int) := by simp [IntKind.wrap, hk]

theorem ic {k : IntKind} {m n : Int} (h : m = n) : some (PV.sc (.int k m)) = some (PV.sc (.int k n)) := by rw [h]
theorem w_add {a b : BitVec 32} : binF P .add t ox oy (vu32 a) (vu32 b) = some (vu32 (a + b)) := by
  rw [bin_add, wrap_um rfl]; exact ic (by rw [BitVec.toNat_add]; simp only [IntKind.bits]; omega)
theorem w_sub {a b : BitVec 32} : binF P .sub t ox oy (vu32 a) (vu32 b) = some (vu32 (a - b)) := by
  rw [bin_sub, wrap_um rfl]
  refine ic ?_
  rw [BitVec.toNat_sub]
  have := a.isLt; have := b.isLt
  simp only [IntKind.bits]
  omega
theorem w_mul {a b : BitVec 32} : binF P .mul t ox oy (vu32 a) (vu32 b) = some (vu32 (a * b)) := by
  rw [bin_mul, wrap_um rfl]; exact ic (by rw [BitVec.toNat_mul, Int.natCast_emod, Int.natCast_mul]; rfl)
theorem d_add {a b : BitVec 64} : binF P .add t ox oy (vu64 a) (vu64 b) = some (vu64 (a + b)) := by
  rw [bin_add, wrap_um rfl]; exact ic (by rw [BitVec.toNat_add]; simp only [IntKind.bits]; omega)
theorem d_sub {a b : BitVec 64} : binF P .sub t ox oy (vu64 a) (vu64 b) = some (vu64 (a - b)) := by
  rw [bin_sub, wrap_um rfl]
  refine ic ?_
  rw [BitVec.toNat_sub]
  have := a.isLt; have := b.isLt
  simp only [IntKind.bits]
  omega
theorem d_mul {a b : BitVec 64} : binF P .mul t ox oy (vu64 a) (vu64 b) = some (vu64 (a * b)) := by
  rw [bin_mul, wrap_um rfl]; exact ic (by rw [BitVec.toNat_mul, Int.natCast_emod, Int.natCast_mul]; rfl)

theorem bits_eq {op : BinOp} {k : IntKind} (hk : k.signed = false) {a b : BitVec k.bits} {f : BitVec k.bits → BitVec k.bits → BitVec k.bits}
    (ho : Op.intBits op k a.toNat b.toNat = (pure (.int k (k.wrap (f (BitVec.ofInt k.bits a.toNat) (BitVec.ofInt k.bits b.toNat)).toNat)) : Sem Value)) :
    Op.intBits op k a.toNat b.toNat = pure (.int k ((f a b).toNat : Int)) := by
  rw [ho, wrap_u hk _ (f _ _).isLt]
  simp [BitVec.ofInt_natCast]
theorem pr_pure {α : Type} (a : α) : pureRun P (pure a : Sem α) = some a := rfl
theorem bin_bits {op : BinOp} {k : IntKind} {a b c : Int} (h1 : ∀ k a b, binOp op t (.int k a) (.int k b) = Op.intBits op k a b) (hne : ∀ a b, eqGuard op t ox oy a b = (pure () : Sem Unit)) (h2 : Op.intBits op k a b = pure (.int k c)) : binF P op t ox oy (.sc (.int k a)) (.sc (.int k b)) = some (.sc (.int k c)) := by
  simp only [binF, toV, hne, h1, h2]
  rfl
theorem b_and : ∀ k a b, binOp .and t (.int k a) (.int k b) = Op.intBits .and k a b := fun k a b => by simp [binOp]
theorem b_or : ∀ k a b, binOp .or t (.int k a) (.int k b) = Op.intBits .or k a b := fun k a b => by simp [binOp]
theorem b_xor : ∀ k a b, binOp .xor t (.int k a) (.int k b) = Op.intBits .xor k a b := fun k a b => by simp [binOp]
theorem b_andNot : ∀ k a b, binOp .andNot t (.int k a) (.int k b) = Op.intBits .andNot k a b := fun k a b => by simp [binOp]
theorem w_and {a b : BitVec 32} : binF P .and t ox oy (vu32 a) (vu32 b) = some (vu32 (a &&& b)) := bin_bits b_and (fun _ _ => rfl) (bits_eq (k := .u32) rfl (f := fun a b => a &&& b) rfl)
theorem w_or {a b : BitVec 32} : binF P .or t ox oy (vu32 a) (vu32 b) = some (vu32 (a ||| b)) := bin_bits b_or (fun _ _ => rfl) (bits_eq (k := .u32) rfl (f := fun a b => a ||| b) rfl)
theorem w_xor {a b : BitVec 32} : binF P .xor t ox oy (vu32 a) (vu32 b) = some (vu32 (a ^^^ b)) := bin_bits b_xor (fun _ _ => rfl) (bits_eq (k := .u32) rfl (f := fun a b => a ^^^ b) rfl)
theorem w_andNot {a b : BitVec 32} : binF P .andNot t ox oy (vu32 a) (vu32 b) = some (vu32 (a &&& ~~~b)) := bin_bits b_andNot (fun _ _ => rfl) (bits_eq (k := .u32) rfl (f := fun a b => a &&& ~~~b) rfl)
theorem d_and {a b : BitVec 64} : binF P .and t ox oy (vu64 a) (vu64 b) = some (vu64 (a &&& b)) := bin_bits b_and (fun _ _ => rfl) (bits_eq (k := .u64) rfl (f := fun a b => a &&& b) rfl)
theorem d_or {a b : BitVec 64} : binF P .or t ox oy (vu64 a) (vu64 b) = some (vu64 (a ||| b)) := bin_bits b_or (fun _ _ => rfl) (bits_eq (k := .u64) rfl (f := fun a b => a ||| b) rfl)
theorem d_xor {a b : BitVec 64} : binF P .xor t ox oy (vu64 a) (vu64 b) = some (vu64 (a ^^^ b)) := bin_bits b_xor (fun _ _ => rfl) (bits_eq (k := .u64) rfl (f := fun a b => a ^^^ b) rfl)
theorem d_andNot {a b : BitVec 64} : binF P .andNot t ox oy (vu64 a) (vu64 b) = some (vu64 (a &&& ~~~b)) := bin_bits b_andNot (fun _ _ => rfl) (bits_eq (k := .u64) rfl (f := fun a b => a &&& ~~~b) rfl)
theorem w_not {a : BitVec 32} : unR .xor P (vu32 a) = some (vu32 (~~~a)) := by
  have h : Op.intBits .xor .u32 (IntKind.u32.max) a.toNat = pure (.int .u32 ((~~~a).toNat : Int)) := by
    have := bits_eq (k := .u32) rfl (op := .xor) (a := BitVec.allOnes 32) (b := a) (f := fun a b => a ^^^ b) rfl
    rw [show (IntKind.u32.max) = (((BitVec.allOnes 32).toNat : Nat) : Int) by rfl]
    refine this.trans ?_
    exact congrArg (fun z : BitVec 32 => (pure (Value.int .u32 (z.toNat : Int)) : Sem Value)) BitVec.allOnes_xor
  simp only [unR, toV, Op.unary, IntKind.signed, Bool.false_eq_true, if_false, h]
  rfl

theorem nat_cast_beq {a b : Nat} : ((a : Int) = (b : Int)) ↔ a = b := by omega
theorem w_eql {a b : BitVec 32} : binF P .eql t ox oy (vu32 a) (vu32 b) = some (vb (decide (a = b))) := by
  rw [bin_eql]; congr 3; simp only [decide_eq_decide]; rw [nat_cast_beq, BitVec.toNat_inj]
theorem w_neq {a b : BitVec 32} : binF P .neq t ox oy (vu32 a) (vu32 b) = some (vb (!decide (a = b))) := by
  rw [bin_neq]; congr 4; simp only [decide_eq_decide]; rw [nat_cast_beq, BitVec.toNat_inj]
theorem w_lss {a b : BitVec 32} : binF P .lss t ox oy (vu32 a) (vu32 b) = some (vb (decide (a < b))) := by
  rw [bin_lss]; congr 3; simp only [decide_eq_decide, BitVec.lt_def]; omega
theorem w_leq {a b : BitVec 32} : binF P .leq t ox oy (vu32 a) (vu32 b) = some (vb (decide (a ≤ b))) := by
  rw [bin_leq]; congr 3; simp only [decide_eq_decide, BitVec.le_def]; omega
theorem w_gtr {a b : BitVec 32} : binF P .gtr t ox oy (vu32 a) (vu32 b) = some (vb (decide (b < a))) := by
  rw [bin_gtr]; congr 3; simp only [decide_eq_decide, BitVec.lt_def]; omega
theorem w_geq {a b : BitVec 32} : binF P .geq t ox oy (vu32 a) (vu32 b) = some (vb (decide (b ≤ a))) := by
  rw [bin_geq]; congr 3; simp only [decide_eq_decide, BitVec.le_def]; omega
theorem d_eql {a b : BitVec 64} : binF P .eql t ox oy (vu64 a) (vu64 b) = some (vb (decide (a = b))) := by
  rw [bin_eql]; congr 3; simp only [decide_eq_decide]; rw [nat_cast_beq, BitVec.toNat_inj]
theorem d_neq {a b : BitVec 64} : binF P .neq t ox oy (vu64 a) (vu64 b) = some (vb (!decide (a = b))) := by
  rw [bin_neq]; congr 4; simp only [decide_eq_decide]; rw [nat_cast_beq, BitVec.toNat_inj]
theorem d_lss {a b : BitVec 64} : binF P .lss t ox oy (vu64 a) (vu64 b) = some (vb (decide (a < b))) := by
  rw [bin_lss]; congr 3; simp only [decide_eq_decide, BitVec.lt_def]; omega
theorem d_leq {a b : BitVec 64} : binF P .leq t ox oy (vu64 a) (vu64 b) = some (vb (decide (a ≤ b))) := by
  rw [bin_leq]; congr 3; simp only [decide_eq_decide, BitVec.le_def]; omega
theorem d_gtr {a b : BitVec 64} : binF P .gtr t ox oy (vu64 a) (vu64 b) = some (vb (decide (b < a))) := by
  rw [bin_gtr]; congr 3; simp only [decide_eq_decide, BitVec.lt_def]; omega
theorem d_geq {a b : BitVec 64} : binF P .geq t ox oy (vu64 a) (vu64 b) = some (vb (decide (b ≤ a))) := by
  rw [bin_geq]; congr 3; simp only [decide_eq_decide, BitVec.le_def]; omega
theorem y_eql {a b : UInt8} : binF P .eql t ox oy (vu8 a) (vu8 b) = some (vb (decide (a = b))) := by
  rw [bin_eql]; congr 3; simp only [decide_eq_decide]; rw [nat_cast_beq, UInt8.toNat_inj]
theorem y_neq {a b : UInt8} : binF P .neq t ox oy (vu8 a) (vu8 b) = some (vb (!decide (a = b))) := by
  rw [bin_neq]; congr 4; simp only [decide_eq_decide]; rw [nat_cast_beq, UInt8.toNat_inj]
theorem y_lss {a b : UInt8} : binF P .lss t ox oy (vu8 a) (vu8 b) = some (vb (decide (a < b))) := by
  rw [bin_lss]; congr 3; simp only [decide_eq_decide, UInt8.lt_iff_toNat_lt]; omega
theorem y_leq {a b : UInt8} : binF P .leq t ox oy (vu8 a) (vu8 b) = some (vb (decide (a ≤ b))) := by
  rw [bin_leq]; congr 3; simp only [decide_eq_decide, UInt8.le_iff_toNat_le]; omega
theorem y_gtr {a b : UInt8} : binF P .gtr t ox oy (vu8 a) (vu8 b) = some (vb (decide (b < a))) := by
  rw [bin_gtr]; congr 3; simp only [decide_eq_decide, UInt8.lt_iff_toNat_lt]; omega
theorem y_geq {a b : UInt8} : binF P .geq t ox oy (vu8 a) (vu8 b) = some (vb (decide (b ≤ a))) := by
  rw [bin_geq]; congr 3; simp only [decide_eq_decide, UInt8.le_iff_toNat_le]; omega

theorem bin_sh {op : BinOp} {k k' : IntKind} {a b : Int} {c : Int} (h1 : ∀ k k' a b, binOp op t (.int k a) (.int k' b) = Op.shift op k a k' b) (hne : ∀ a b, eqGuard op t ox oy a b = (pure () : Sem Unit)) (h2 : Op.shift op k a k' b = pure (.int k c)) : binF P op t ox oy (.sc (.int k a)) (.sc (.int k' b)) = some (.sc (.int k c)) := by
  simp only [binF, toV, hne, h1, h2]
  rfl
theorem s_shl : ∀ k k' a b, binOp .shl t (.int k a) (.int k' b) = Op.shift .shl k a k' b := fun k k' a b => rfl
theorem s_shr : ∀ k k' a b, binOp .shr t (.int k a) (.int k' b) = Op.shift .shr k a k' b := fun k k' a b => rfl
theorem shl_eq {n : Nat} (a : BitVec n) (b : Nat) : ((a.toNat : Int) * 2 ^ min b n) % 2 ^ n = ((a <<< b).toNat : Int) := by
  rw [BitVec.toNat_shiftLeft, Nat.shiftLeft_eq]
  by_cases h : b ≤ n
  · rw [Nat.min_eq_left h]; push_cast; rfl
  · rw [Nat.min_eq_right (by omega)]
    have e1 : (2 ^ b : Nat) = 2 ^ n * 2 ^ (b - n) := by rw [← Nat.pow_add]; congr 1; omega
    rw [e1, ← Nat.mul_assoc, Nat.mul_right_comm, Nat.mul_mod_left]
    simp
theorem shr_eq {n : Nat} (a : BitVec n) (b : Nat) : Int.fdiv (a.toNat : Int) (2 ^ min b n) = ((a >>> b).toNat : Int) := by
  rw [BitVec.toNat_ushiftRight, Nat.shiftRight_eq_div_pow, Int.fdiv_eq_ediv_of_nonneg _ (Int.pow_nonneg (by omega))]
  by_cases h : b ≤ n
  · rw [Nat.min_eq_left h]; push_cast; rfl
  · rw [Nat.min_eq_right (by omega), Nat.div_eq_of_lt (Nat.lt_of_lt_of_le a.isLt (Nat.pow_le_pow_right (by omega) (by omega)))]
    have := Nat.div_eq_of_lt a.isLt
    have e : ((a.toNat / 2 ^ n : Nat) : Int) = 0 := by rw [this]; rfl
    push_cast at e
    exact_mod_cast e
theorem w_shl {a : BitVec 32} {k : IntKind} {y : Int} (h : 0 ≤ y) : binF P .shl t ox oy (vu32 a) (.sc (.int k y)) = some (vu32 (a <<< y.toNat)) := bin_sh s_shl (fun _ _ => rfl) (by
  simp only [Op.shift]; rw [if_neg (by omega), wrap_um rfl]; exact congrArg (fun z => (pure (Value.int .u32 z) : Sem Value)) (shl_eq a y.toNat))
theorem w_shr {a : BitVec 32} {k : IntKind} {y : Int} (h : 0 ≤ y) : binF P .shr t ox oy (vu32 a) (.sc (.int k y)) = some (vu32 (a >>> y.toNat)) := bin_sh s_shr (fun _ _ => rfl) (by
  simp only [Op.shift]; rw [if_neg (by omega)]; exact congrArg (fun z => (pure (Value.int .u32 z) : Sem Value)) (shr_eq a y.toNat))
theorem d_shl {a : BitVec 64} {k : IntKind} {y : Int} (h : 0 ≤ y) : binF P .shl t ox oy (vu64 a) (.sc (.int k y)) = some (vu64 (a <<< y.toNat)) := bin_sh s_shl (fun _ _ => rfl) (by
  simp only [Op.shift]; rw [if_neg (by omega), wrap_um rfl]; exact congrArg (fun z => (pure (Value.int .u64 z) : Sem Value)) (shl_eq a y.toNat))
theorem d_shr {a : BitVec 64} {k : IntKind} {y : Int} (h : 0 ≤ y) : binF P .shr t ox oy (vu64 a) (.sc (.int k y)) = some (vu64 (a >>> y.toNat)) := bin_sh s_shr (fun _ _ => rfl) (by
  simp only [Op.shift]; rw [if_neg (by omega)]; exact congrArg (fun z => (pure (Value.int .u64 z) : Sem Value)) (shr_eq a y.toNat))
theorem w_quo {a b : BitVec 32} (h : b ≠ 0#32) : binF P .quo t ox oy (vu32 a) (vu32 b) = some (vu32 (a / b)) := by
  have hb : b.toNat ≠ 0 := fun e => h (BitVec.eq_of_toNat_eq (by simpa using e))
  rw [bin_quo _ _ _ _ _ _ _ (by omega), wrap_um rfl]
  refine ic ?_
  rw [BitVec.toNat_udiv, Int.tdiv_eq_ediv_of_nonneg (by omega)]
  have h1 : a.toNat / b.toNat < 2 ^ 32 := Nat.lt_of_le_of_lt (Nat.div_le_self _ _) a.isLt
  have h2 : ((a.toNat : Int) / (b.toNat : Int)) = ((a.toNat / b.toNat : Nat) : Int) := by push_cast; rfl
  rw [h2]
  generalize a.toNat / b.toNat = q at h1 ⊢
  simp only [IntKind.bits]
  omega
theorem w_rem {a b : BitVec 32} (h : b ≠ 0#32) : binF P .rem t ox oy (vu32 a) (vu32 b) = some (vu32 (a % b)) := by
  have hb : b.toNat ≠ 0 := fun e => h (BitVec.eq_of_toNat_eq (by simpa using e))
  rw [bin_rem _ _ _ _ _ _ _ (by omega)]
  refine ic ?_
  rw [BitVec.toNat_umod, Int.tmod_eq_emod_of_nonneg (by omega)]
  push_cast; rfl
theorem d_quo {a b : BitVec 64} (h : b ≠ 0#64) : binF P .quo t ox oy (vu64 a) (vu64 b) = some (vu64 (a / b)) := by
  have hb : b.toNat ≠ 0 := fun e => h (BitVec.eq_of_toNat_eq (by simpa using e))
  rw [bin_quo _ _ _ _ _ _ _ (by omega), wrap_um rfl]
  refine ic ?_
  rw [BitVec.toNat_udiv, Int.tdiv_eq_ediv_of_nonneg (by omega)]
  have h1 : a.toNat / b.toNat < 2 ^ 64 := Nat.lt_of_le_of_lt (Nat.div_le_self _ _) a.isLt
  have h2 : ((a.toNat : Int) / (b.toNat : Int)) = ((a.toNat / b.toNat : Nat) : Int) := by push_cast; rfl
  rw [h2]
  generalize a.toNat / b.toNat = q at h1 ⊢
  simp only [IntKind.bits]
  omega
theorem d_rem {a b : BitVec 64} (h : b ≠ 0#64) : binF P .rem t ox oy (vu64 a) (vu64 b) = some (vu64 (a % b)) := by
  have hb : b.toNat ≠ 0 := fun e => h (BitVec.eq_of_toNat_eq (by simpa using e))
  rw [bin_rem _ _ _ _ _ _ _ (by omega)]
  refine ic ?_
  rw [BitVec.toNat_umod, Int.tmod_eq_emod_of_nonneg (by omega)]
  push_cast; rfl

/-! From one kind of number to another -/
theorem conv_int {s d : TypeId} {ds : TypeDesc} {k k' : IntKind} {n : Int} (hs : P.underlying s = some ds) (hd : P.underlying d = some (.int k')) : convR P s d (.sc (.int k n)) = some (.sc (.int k' (k'.wrap n))) := by
  simp only [convR, toV, convert, underlying, program, bind, Sem.bind, Sem.instMonad, pure, pureRun, hs, hd]
  cases ds <;> rfl
theorem c_iw {s d : TypeId} {ds : TypeDesc} {n : Int} (hs : P.underlying s = some ds) (hd : P.underlying d = some (.int .u32)) : convR P s d (vi n) = some (vu32 (BitVec.ofInt 32 n)) := by
  rw [conv_int hs hd, wrap_um rfl]
  refine ic ?_
  rw [BitVec.toNat_ofInt]
  simp only [IntKind.bits]
  omega
theorem c_id {s d : TypeId} {ds : TypeDesc} {n : Int} (hs : P.underlying s = some ds) (hd : P.underlying d = some (.int .u64)) : convR P s d (vi n) = some (vu64 (BitVec.ofInt 64 n)) := by
  rw [conv_int hs hd, wrap_um rfl]
  refine ic ?_
  rw [BitVec.toNat_ofInt]
  simp only [IntKind.bits]
  omega
theorem c_wi {s d : TypeId} {ds : TypeDesc} {a : BitVec 32} (hs : P.underlying s = some ds) (hd : P.underlying d = some (.int .i64)) : convR P s d (vu32 a) = some (vi (a.toNat : Int)) := by
  have := a.isLt
  rw [conv_int hs hd, wrap_i64 (by omega) (by omega)]
theorem c_di {s d : TypeId} {ds : TypeDesc} {a : BitVec 64} (hs : P.underlying s = some ds) (hd : P.underlying d = some (.int .i64)) : convR P s d (vu64 a) = some (vi (wr (a.toNat : Int))) := conv_int hs hd
theorem c_yi {s d : TypeId} {ds : TypeDesc} {a : UInt8} (hs : P.underlying s = some ds) (hd : P.underlying d = some (.int .i64)) : convR P s d (vu8 a) = some (vi (a.toNat : Int)) := by
  have := a.toNat_lt
  rw [conv_int hs hd, wrap_i64 (by omega) (by omega)]
theorem c_wd {s d : TypeId} {ds : TypeDesc} {a : BitVec 32} (hs : P.underlying s = some ds) (hd : P.underlying d = some (.int .u64)) : convR P s d (vu32 a) = some (vu64 (a.setWidth 64)) := by
  have := a.isLt
  rw [conv_int hs hd, wrap_u rfl _ (by simp only [IntKind.bits]; omega)]
  exact ic (by rw [BitVec.toNat_setWidth, Nat.mod_eq_of_lt (by omega)])
theorem c_dw {s d : TypeId} {ds : TypeDesc} {a : BitVec 64} (hs : P.underlying s = some ds) (hd : P.underlying d = some (.int .u32)) : convR P s d (vu64 a) = some (vu32 (a.setWidth 32)) := by
  rw [conv_int hs hd, wrap_um rfl]
  exact ic (by rw [BitVec.toNat_setWidth]; simp only [IntKind.bits]; omega)
theorem c_ii {s d : TypeId} {ds : TypeDesc} {n : Int} (hs : P.underlying s = some ds) (hd : P.underlying d = some (.int .i64)) : convR P s d (vi n) = some (vi (wr n)) := conv_int hs hd
theorem c_ww {s d : TypeId} {ds : TypeDesc} {a : BitVec 32} (hs : P.underlying s = some ds) (hd : P.underlying d = some (.int .u32)) : convR P s d (vu32 a) = some (vu32 a) := by
  rw [conv_int hs hd, wrap_u rfl _ (by simpa [IntKind.bits] using a.isLt)]

/-! Texts -/
theorem str_len {l : List UInt8} {ty ty' : TypeId} (ht : P.underlying ty = some .string) : biF P .len [ty].toArray ty' [vs l] = some (vi l.length) := by
  have e : toVs [vs l] = some [.string ⟨l.toArray⟩] := rfl
  have e2 : pureRun P (Builtin.len_ [ty].toArray ty' [Value.string ⟨l.toArray⟩].toArray) = some (.int .i64 l.length) := by
    simp [Builtin.len_, underlying, program, pureRun, pure, bind, Sem.bind, Sem.instMonad, ht, goInt]
    rfl
  simp only [biF, e, e2]
  rfl
theorem str_idx {l : List UInt8} {ty : TypeId} {i : Int} (ht : P.underlying ty = some .string) (h0 : 0 ≤ i) (h1 : i < l.length) : indexSR P ty (vs l) (vi i) = some (vu8 (ix l i)) := by
  have h2 : i.toNat < l.length := by omega
  have h3 : (⟨l.toArray⟩ : ByteArray)[i.toNat]? = some l[i.toNat] := by
    rw [getElem?_pos (⟨l.toArray⟩ : ByteArray) i.toNat (by simpa [ByteArray.size] using h2)]
    rfl
  simp only [indexSR, toV, Instr.index, asIntOf, underlying, program, bind, Sem.bind, Sem.instMonad, pure, pureRun, ht]
  rw [if_pos h0, h3, ix_lt h0 h1]
  rfl
theorem ba_list (l : List UInt8) : (⟨l.toArray⟩ : ByteArray).toList = l := by
  have key : ∀ (m i : Nat) (r : List UInt8), l.length - i = m → i ≤ l.length → ByteArray.toList.loop ⟨l.toArray⟩ i r = r.reverse ++ l.drop i := by
    intro m
    induction m with
    | zero =>
      intro i r h h'
      have : i = l.length := by omega
      rw [ByteArray.toList.loop, if_neg (by simp [ByteArray.size]; omega), List.drop_of_length_le (by omega)]; simp
    | succ m ih =>
      intro i r h h'
      rw [ByteArray.toList.loop, if_pos (by simp [ByteArray.size]; omega), ih (i + 1) _ (by omega) (by omega)]
      have e : (⟨l.toArray⟩ : ByteArray).get! i = l[i]'(by omega) := by simp [ByteArray.get!, show i < l.length by omega]
      rw [e, List.drop_eq_getElem_cons (show i < l.length by omega)]
      simp
  simpa [ByteArray.toList] using key _ 0 [] rfl (by omega)
theorem str_eql {l k : List UInt8} : binF P .eql t ox oy (vs l) (vs k) = some (vb (decide (l = k))) := by
  have : ((⟨l.toArray⟩ : ByteArray).toList == (⟨k.toArray⟩ : ByteArray).toList) = decide (l = k) := by
    rw [ba_list, ba_list]; exact Bool.eq_iff_iff.2 (by simp)
  simp only [binF, toV, eqGuard, binOp, Op.stringOp, this]
  rfl
theorem str_neq {l k : List UInt8} : binF P .neq t ox oy (vs l) (vs k) = some (vb (!decide (l = k))) := by
  have : ((⟨l.toArray⟩ : ByteArray).toList == (⟨k.toArray⟩ : ByteArray).toList) = decide (l = k) := by
    rw [ba_list, ba_list]; exact Bool.eq_iff_iff.2 (by simp)
  simp only [binF, toV, eqGuard, binOp, Op.stringOp, this]
  rfl
end

/-! Results of more than one part -/
def RT2 (A B : PV → Prop) (v : PV) : Prop := ∃ a b, v = .tup [a, b] ∧ A a ∧ B b
def RT3 (A B C : PV → Prop) (v : PV) : Prop := ∃ a b c, v = .tup [a, b, c] ∧ A a ∧ B b ∧ C c

/-! A function az0 a value -/
def tFn (P : Program) {α β : Type} (ta : TR α) (tb : TR β) : TR (α → β) := ⟨fun g v => ∃ id first cap, v = .fn (.func id) first cap ∧ closedL first = true ∧ closedL cap = true ∧ ∀ a va, ta.R a va → ∃ vr, FnR P id (first ++ ([va] ++ cap)) vr ∧ tb.R (g a) vr,
  1, false, fun h => by obtain ⟨_, _, _, rfl, _⟩ := h; rfl, fun h => by obtain ⟨_, _, _, rfl, _⟩ := h; rfl, fun h => by obtain ⟨_, _, _, rfl, h1, h2, _⟩ := h; simp [closed, h1, h2]⟩
theorem tFn_of {P : Program} {α β : Type} {ta : TR α} {tb : TR β} {g : α → β} {id : FuncId} (H : ∀ a va, ta.R a va → ∃ vr, FnR P id [va] vr ∧ tb.R (g a) vr) : (tFn P ta tb).R g (.fn (.func id) [] []) :=
  ⟨id, [], [], rfl, rfl, rfl, fun a va h => by simpa using H a va h⟩

/-! Pointers to memory that nobody writes any more -/
def tP {α : Type} (t : TR α) : TR (Option α) := ⟨fun o v => match o with | none => v = .sc (.pointer none) | some a => ∃ e, v = .fp e ∧ t.R a e, 1, false,
  fun {a v} h => by cases a with | none => rw [h]; rfl | some a => obtain ⟨e, rfl, _⟩ := h; rfl,
  fun {a v} h => by cases a with | none => rw [h]; rfl | some a => obtain ⟨e, rfl, _⟩ := h; rfl,
  fun {a v} h => by cases a with | none => rw [h]; rfl | some a => obtain ⟨e, rfl, h⟩ := h; simpa [closed] using t.clo h⟩

end Go.Pb
