/-
  Plain library.
-/
import Derived.Test.YtkgnjpoafilicaaPbC
import Derived.Sort.Grow
/-
  Plain library, part 42: parts of an own slice, what is cleared and cut off, and calls that turn one row of own memory.
-/
set_option linter.unusedVariables false
set_option linter.unusedSimpArgs false
namespace Go.Pb
open Go Go.RowKit
section
variable {P : Program} {S : List Fr} {Q : Post} {E : TEnv} {h : Heap} {hf : Bool} {L : List Ent} {r : List AOper} {ty : TypeId} {sz : Nat}
/-- A part of an own slice. -/
theorem ov_sliceO {x : Operand} {lo hi : Option Operand} {a b : Int} {tt : TypeId} {id ver off n : Nat} (ex : evE E x = some (.os id ver off n)) (ha : Bnd E 0 lo a) (hb : Bnd E n hi b) (h0 : 0 ≤ a) (h1 : a < b) (h2 : b ≤ (n : Int)) (hs : 0 < sz) :
    OV P (.slice tt sz x lo hi none) hf E h (.os id ver (off + a.toNat * sz) (b.toNat - a.toNat)) := ⟨rfl, fun T hT => by
  have e1 : boundF T 0 lo = some a.toNat := ha.eq hT h0
  have e2 : boundF T n hi = some b.toNat := hb.eq hT (by omega)
  simp only [opQ, evE_ok hT ex, e1, e2, boundM]
  rw [if_pos ⟨by omega, by omega, hs, rfl⟩, if_neg (by omega)]⟩
/-- Of an own block less is told. -/
theorem RelP.cut {w0 : World} {F0 : Nat → Prop} {x : Cx} (R : RelP P w0 F0 h x) {id ver m : Nat} {t : TypeId} {cs : List PV} (hb : h.bl[id]? = some (.cells ver t true cs)) : RelP P w0 F0 (hput h id (.cells ver t true (cs.take m))) x := by
  have hset : ∀ (k : Nat) blk, (h.bl.set id (.cells ver t true (cs.take m)))[k]? = some blk → ∃ blk', h.bl[k]? = some blk' ∧ blk'.ver = blk.ver ∧ (blk = blk' ∨ (k = id ∧ blk = .cells ver t true (cs.take m))) := fun k blk hk => by
    rcases bl_set k blk hk with ⟨rfl, rfl⟩ | ⟨hne, hk'⟩
    · exact ⟨_, hb, rfl, .inr ⟨rfl, rfl⟩⟩
    · exact ⟨blk, hk', rfl, .inl rfl⟩
  refine ⟨R.below, R.f0, R.fsub, R.fnew, R.own, R.fresh, fun id1 id2 b1 b2 b h1 h2 h3 h4 => ?_, fun k blk hk => ?_⟩
  · obtain ⟨c1, e1, v1, _⟩ := hset id1 b1 h1
    obtain ⟨c2, e2, v2, _⟩ := hset id2 b2 h2
    exact R.inj id1 id2 c1 c2 b e1 e2 (by rw [v1]; exact h3) (by rw [v2]; exact h4)
  · obtain ⟨c1, e1, v1, hc⟩ := hset k blk hk
    rcases hc with rfl | ⟨rfl, rfl⟩
    · exact R.hr k _ e1
    · intro b hj
      obtain ⟨⟨cur, h5, h6, h7⟩, h8⟩ := R.hr k _ hb b hj
      refine ⟨⟨cur, h5, by simp; omega, ?_⟩, h8⟩
      have := VRL_take m h7
      rw [List.take_take] at this
      rw [List.length_take]
      exact this
theorem rowCells_take : ∀ {es cs : List PV}, (∀ y ∈ es, cnt y = some sz) → rowCells es = some cs → ∀ k, rowCells (es.take k) = some (cs.take (k * sz))
  | es, cs, _, _, 0 => by simp [rowCells]
  | [], cs, hc, hr, k + 1 => by
    simp only [rowCells, Option.some.injEq] at hr
    subst hr
    simp [rowCells]
  | e :: es, cs, hc, hr, k + 1 => by
    obtain ⟨a, h1, h2⟩ := cells_of_cnt (hc e (by simp))
    obtain ⟨b, h3, h4⟩ := rowCells_ex (es := es) (sz := sz) fun x hx => hc x (by simp [hx])
    simp only [rowCells, h1, h3, Option.some.injEq] at hr
    subst hr
    have ih := rowCells_take (fun x hx => hc x (by simp [hx])) h3 k
    simp only [List.take_succ_cons, rowCells, h1, ih, Option.some.injEq]
    rw [show (k + 1) * sz = a.length + k * sz by rw [Nat.succ_mul]; omega, List.take_append, List.take_of_length_le (l := a) (i := a.length + k * sz) (Nat.le_add_right _ _)]
    simp
/-- What is cleared behind a part is cut off. -/
theorem rs_clrT {k : Nat} {id ver n kk : Nat} {es : List PV} {z : Value} {x : Operand} (M : Mem h L) (hk : L[k]? = some ⟨.os id ver 0 n, ty, sz, es⟩) (ex : evE E x = some (.os id ver (0 + kk * sz) (n - kk))) (hlt : kk < n) (hz : z.cells.size = sz)
    (K : ∀ h', Mem h' (L.set k ⟨.os id ver 0 kk, ty, sz, es.take kk⟩) → RS P r S Q E h') : RS P (⟨none, .clr sz z x, none, hf⟩ :: r) S Q E h := by
  obtain ⟨h1, hn, cs, h2, h3⟩ := M.atF hk
  obtain ⟨cs', h4, h5⟩ := rowCells_ex h1
  rw [h2] at h4
  simp only [Option.some.injEq] at h4
  subst h4
  have hrl : (repCells (n - kk) (z.cells.toList.map PV.sc)).length = (n - kk) * sz := by
    unfold repCells
    rw [flatten_length (sz := sz) _ (fun p hp => by rw [List.eq_of_mem_replicate hp]; simpa using hz)]
    simp
  have hmul : kk * sz + (n - kk) * sz = n * sz := by rw [← Nat.add_mul]; congr 1; omega
  have hcl : cs.length = n * sz := by rw [h5, hn]
  intro T hT
  refine ⟨T, h, Wk.refl T h, true, rfl, fun _ => .inl ?_, fun e => by cases e⟩
  have hq : opL T h (.clr sz z x) = some (.tup [], hput h id (.cells ver ty true (spl cs (0 + kk * sz) (repCells (n - kk) (z.cells.toList.map PV.sc))))) := by
    have hb : h.bl[id]? = some (.cells ver ty true cs) := h3
    simp only [opL, evE_ok hT ex, hb]
    rw [if_pos ⟨trivial, by omega, by omega⟩]
    rfl
  show OpD P (.clr sz z x) hf T h _
  unfold OpD
  show ∃ r h', opL T h (.clr sz z x) = some (r, h') ∧ _
  refine ⟨_, _, hq, ?_⟩
  have htk : (spl cs (0 + kk * sz) (repCells (n - kk) (z.cells.toList.map PV.sc))).take (kk * sz) = cs.take (kk * sz) := by
    unfold spl
    rw [Nat.zero_add, List.take_append_of_le_length (by simp; omega), List.take_take, Nat.min_self]
  have hlt2 := blk_lt h3
  have hb2 : (hput h id (.cells ver ty true (spl cs (0 + kk * sz) (repCells (n - kk) (z.cells.toList.map PV.sc))))).bl[id]? = some (.cells ver ty true (spl cs (0 + kk * sz) (repCells (n - kk) (z.cells.toList.map PV.sc)))) := blk_put h id _ hlt2
  have hM : Mem (hput (hput h id (.cells ver ty true (spl cs (0 + kk * sz) (repCells (n - kk) (z.cells.toList.map PV.sc))))) id (.cells ver ty true (cs.take (kk * sz)))) (L.set k ⟨.os id ver 0 kk, ty, sz, es.take kk⟩) := by
    refine M.upd hk ⟨fun x hx => h1 x (List.take_subset _ _ hx), by simp; omega, _, ?_, blk_put _ _ _ (by simpa [hput, hlen] using hlt2)⟩ (fun i hi => .inl hi) fun i hi hne => ?_
    · exact rowCells_take h1 h2 kk
    · have hne' : ¬ id = i := fun e => hne (by simp [idOf, e])
      rw [blk_put_ne _ _ _ _ hne', blk_put_ne _ _ _ _ hne']
  refine runS_wk (T' := T) ?_ (K _ hM T hT)
  intro w0 F0 n' y ac R hTm
  refine ⟨y, rfl, Ext.refl y, ?_, hTm⟩
  have := R.cut (m := kk * sz) hb2
  rwa [htk] at this
/-! Compact, az0 a plain program -/
def cpF {α : Type} [Inhabited α] [DecidableEq α] (l : List α) : Nat → List α
  | 0 => []
  | m + 1 => cpF l m ++ (if m = 0 ∨ ix l (m : Int) ≠ ix l ((m : Int) - 1) then [ix l (m : Int)] else [])
def cpt {α : Type} [Inhabited α] [DecidableEq α] (l : List α) : List α := cpF l l.length
theorem cpF_len {α : Type} [Inhabited α] [DecidableEq α] (l : List α) : ∀ m, (cpF l m).length ≤ m
  | 0 => by simp [cpF]
  | m + 1 => by
    have := cpF_len l m
    rw [cpF, List.length_append]
    split <;> simp <;> omega
theorem cpF_new {α : Type} [Inhabited α] [DecidableEq α] {l : List α} {m : Nat} (h : m = 0 ∨ ix l (m : Int) ≠ ix l ((m : Int) - 1)) : cpF l (m + 1) = cpF l m ++ [ix l (m : Int)] := by rw [cpF, if_pos h]
theorem cpF_old {α : Type} [Inhabited α] [DecidableEq α] {l : List α} {m : Nat} (h0 : 0 < m) (h : ix l (m : Int) = ix l ((m : Int) - 1)) : cpF l (m + 1) = cpF l m := by
  rw [cpF, if_neg (by simp [h]; omega), List.append_nil]
theorem take_ix {α : Type} [Inhabited α] {l : List α} {m : Nat} (h : m < l.length) : l.take (m + 1) = l.take m ++ [ix l (m : Int)] := by
  rw [ix_nat h, List.take_add_one, List.getElem?_eq_getElem h]
  rfl
theorem cpt_small {α : Type} [Inhabited α] [DecidableEq α] {l : List α} (h : l.length < 2) : cpt l = l := by
  unfold cpt
  match l, h with
  | [], _ => rfl
  | [a], _ => simp [cpF, ix]
theorem osl_len {id ver off n : Nat} {t e : TypeId} (ht : P.underlying t = some (.slice e)) (ty : TypeId) : biF P .len [t].toArray ty [.os id ver off n] = some (vi (n : Int)) := by
  simp [biF, toVs, toV, ht, vi]
end
end Go.Pb

/-
  Plain library, part 44: short forms for the printed proofs; the code of a function reckoned from the program.
-/
set_option linter.unusedVariables false
set_option linter.unusedSimpArgs false
namespace Go.Pb
open Go Go.RowKit

theorem qa : (∀ a b : Bool, ((a || b) = true) = (a = true ∨ b = true)) ∧ (∀ a b : Bool, (a || b) = false ↔ a = false ∧ b = false) ∧ (∀ a b : Bool, ((a && b) = true) = (a = true ∧ b = true)) ∧ (∀ a b : Bool, (a && b) = false ↔ (a = true → b = false)) ∧ (∀ (p : Prop) [Decidable p], (decide p = true) = p) ∧ (∀ (p : Prop) [Decidable p], decide p = false ↔ ¬p) ∧ (∀ a : Bool, ((!a) = true) = (a = false)) ∧ (∀ a : Bool, ((!a) = false) = (a = true)) ∧ (∀ a : Bool, (¬a = true) = (a = false)) ∧ (∀ a : Bool, (¬a = false) = (a = true)) ∧ ((!true) = false) ∧ ((!false) = true) ∧ (∀ n : Nat, Int.ofNat n = (n : Int)) ∧ (∀ n : Nat, Int.negSucc n = -((n : Int) + 1)) :=
 ⟨Bool.or_eq_true, fun _ _ => Bool.or_eq_false_iff, Bool.and_eq_true, fun _ _ => Bool.and_eq_false_imp, fun _ _ => decide_eq_true_eq, fun _ _ => decide_eq_false_iff_not, Bool.not_eq_true', Bool.not_eq_false', Bool.not_eq_true, Bool.not_eq_false, rfl, rfl, fun _ => rfl, fun _ => Int.negSucc_eq _⟩
theorem qaD {α : Type} (a b : α) : (a ≠ b) = ¬a = b := ne_eq a b

/-- All that the second row tells, the first tells. -/
theorem sB {E : TEnv} : ∀ {E0 : TEnv}, E0.map (fun p => look p.1 E) = E0.map (fun p => some p.2) → SubE E E0
  | [], _ => sub_nil E
  | (d, v) :: r, h => by
    simp only [List.map_cons, List.cons.injEq] at h
    exact sub_cons h.1 (sB h.2)

/-! The code of a function, reckoned from the program -/
/-- The code of a function in our form. -/
def cO (P : Program) (own : List Tmp) (n : Nat) (f : Func) : AC := (compC P own n (f.body.getD .skip)).getD .skip
/-- The bodies of the loops, the outer before the inner. -/
def loops : AC → List AC
  | .seq a b => loops a ++ loops b
  | .cond _ a b => loops a ++ loops b
  | .block _ b => loops b
  | .scope b => loops b
  | .loop b => b :: loops b
  | _ => []
def lP (k : Nat) (c : AC) : AC := (loops c).getD k .skip
/-- What a term comes to, in full. -/
abbrev rdc (c w : AC) (h : c = w) : AC := w
theorem tX {P : Program} {f : FuncId} {own : List Tmp} {n np : Nat} {ac : AC} {rs : List (Tmp × Option (Nat × Bool))} {fn : Func} (e : Enters P f) (fo : P.follows .mixedOrders = true) (h : P.funcs[f]? = some fn)
    (hb : fn.body = some (fn.body.getD .skip)) (hn : fn.ntmps = n) (hp : np ≤ n) (hc : compC P own n (fn.body.getD .skip) = some ac) (hr : compRes P fn.results.toList = some rs) : FnText P f own n np ac rs :=
  ⟨e, fo, fn, _, h, hb, hn, hp, hc, hr⟩

section
variable {P : Program} {S : List Fr} {Q : Post} {E E0 : TEnv} {h h' : Heap} {op : AOp} {hf hf2 : Bool} {v : PV} {r l : List AOper} {d d2 t : Nat} {f : Operand} {args : List Operand} {w b : Bool}

theorem wC {c : AC} (k : RC P c S Q E0 h) (s : E0.map (fun p => look p.1 E) = E0.map (fun p => some p.2)) : RC P c S Q E h := rc_weak (sB s) k
theorem wP {id : Nat} (k : PX P id S Q E0 h) (s : E0.map (fun p => look p.1 E) = E0.map (fun p => some p.2)) : PX P id S Q E h := px_weak (sB s) k
theorem wD {l : List AOper} (k : RD P l S Q E0 h) (s : E0.map (fun p => look p.1 E) = E0.map (fun p => some p.2)) : RD P l S Q E h := rd_weak (sB s) k
theorem wN (k : PN P S Q E0 h) (s : E0.map (fun p => look p.1 E) = E0.map (fun p => some p.2)) : PN P S Q E h := pn_weak (sB s) k
/-- A branch. -/
theorem rc_br {α : Type} {c : Operand} {a b : AC} {v : Bool} {x y r : α} (hres : (if v = true then x else y) = r) (hc : evE E c = some (vb v)) (h1 : v = true → x = r → RC P a S Q E h) (h2 : v = false → y = r → RC P b S Q E h) : RC P (.cond c a b) S Q E h :=
  rc_cond hc (fun e => h1 e ((ite_t e).symm.trans hres)) (fun e => h2 e ((ite_f e).symm.trans hres))

/-- The contract of a function whose result is told by one data value. -/
theorem fnS {f : FuncId} {own : List Tmp} {n np : Nat} {ac : AC} {rs : List (Tmp × Option (Nat × Bool))} {args : List PV} {α : Type} {e : α} {v : PV} {R : α → PV → Prop} (X : FnText P f own n np ac rs)
    (hr : ∀ r, R e r → r = v) (hn : Nat.ble args.length np = true) (H : ∀ res, e = res → RC P ac [] (QR P rs (R res)) (argE 0 args) ⟨0, []⟩) : FnR P f args v := by
  obtain ⟨r, h1, h2⟩ := fnE X (Nat.le_of_ble_eq_true hn) (H e rfl)
  rw [← hr r h2]; exact h1
theorem fnT {f : FuncId} {own : List Tmp} {n np : Nat} {ac : AC} {rs : List (Tmp × Option (Nat × Bool))} {args : List PV} {α : Type} {e : α} {R : α → PV → Prop} (X : FnText P f own n np ac rs)
    (hn : Nat.ble args.length np = true) (H : ∀ res, e = res → RC P ac [] (QR P rs (R res)) (argE 0 args) ⟨0, []⟩) : ∃ r, FnR P f args r ∧ R e r := fnE X (Nat.le_of_ble_eq_true hn) (H e rfl)
theorem fnXX {f : FuncId} {own : List Tmp} {n np : Nat} {ac : AC} {rs : List (Tmp × Option (Nat × Bool))} {args : List PV} {α : Type} {e : α} {R : α → PV → Heap → Prop} (X : FnText P f own n np ac rs)
    (hn : Nat.ble args.length np = true) (H : ∀ res, e = res → RC P ac [] (retPost P rs (R res)) (argE 0 args) h) : ∃ r h', FnX P f args h r h' ∧ R e r h' := fnX X (Nat.le_of_ble_eq_true hn) (H e rfl)

theorem aL {α : Type} {R : α → PV → Prop} : All2 R [] [] := trivial
/-! Returns -/
theorem rR {α : Type} {t : Tmp} {R : α → PV → Prop} {e res : α} {v : PV} (hres : e = res) (hv : look t E = some v) (hc : closed v = true) (hr : R e v) : RC P .ret S (QR P [(t, none)] (R res)) E h := by
  subst hres; exact rc_retV (.tmp hv .nil) (deep_closed hc) hr
theorem rT {α : Type} {t t' : Tmp} {R : α → PV → Prop} {e res : α} {v v' : PV} (hres : e = res) (hv : look t E = some v) (hv' : look t' E = some v') (hc : closed v = true) (hc' : closed v' = true) (hr : R e (.tup [v, v'])) : RC P .ret S (QR P [(t, none), (t', none)] (R res)) E h := by
  subst hres; exact rc_retV (.tmp hv (.tmp hv' .nil)) (deep_closed (show closed (.tup _) = true from clL_cons hc (clL_cons hc' clL_nil))) hr

/-! Steps told in one -/
theorem sR {d : Bool} {al : List AOper} {b : AC} (k : RD P al (.seq b :: S) Q E h) : RC P (.seq (.region d al) b) S Q E h := rc_seq (rc_region k)
theorem nS {b : AC} (k : RC P b S Q E h) : RD P [] (.seq b :: S) Q E h := k
theorem nR {d : Bool} {al : List AOper} {b : AC} (k : RD P al (.seq b :: S) Q E h) : RD P [] (.seq (.seq (.region d al) b) :: S) Q E h := rd_nil (pn_seq (sR k))
theorem mV {x : Operand} {a : PV} (ex : evE E x = some a) (k : RD P r S Q ((d, a) :: E) h) : RD P (⟨some d, .move x, none, hf⟩ :: r) S Q E h := rd_op (ov_move ex) k
theorem mI {x : Operand} {n : Int} (ex : evE E x = some (vi n)) (k : RD P r S Q ((d, vi n) :: E) h) : RD P (⟨some d, .move x, none, hf⟩ :: r) S Q E h := rd_op (ov_move ex) k
theorem mB {x : Operand} {n : Bool} (ex : evE E x = some (vb n)) (k : RD P r S Q ((d, vb n) :: E) h) : RD P (⟨some d, .move x, none, hf⟩ :: r) S Q E h := rd_op (ov_move ex) k
theorem bN {op : BinOp} {t : TypeId} {x y : Operand} {a b v : PV} (hb : binF P op t x y a b = some v) (ex : evE E x = some a) (ey : evE E y = some b) (k : RD P r S Q ((d, v) :: E) h) : RD P (⟨some d, .bin op t x y, none, hf⟩ :: r) S Q E h := rd_op (ov_bin ex ey hb) k
theorem xT {x : Operand} {vs : List PV} {k : Nat} {v : PV} (ex : evE E x = some (.tup vs)) (hk : vs[k]? = some v) (K : RD P r S Q ((d, v) :: E) h) : RD P (⟨some d, .extract x k, none, hf⟩ :: r) S Q E h := rd_op (ov_extract ex hk) K
theorem fA {x : Operand} {a w : PV} {off sz : Nat} {agg : Bool} (ex : evE E x = some (.fp a)) (hw : fieldR off sz agg a = some w) (k : RD P r S Q ((d, .fp w) :: E) h) : RD P (⟨some d, .faddr off sz agg x, none, hf⟩ :: r) S Q E h := rd_op (ov_faddr ex hw) k
theorem lD {α : Type} {t : TR α} {s : α} {a : PV} {x : Operand} {sz : Nat} {agg : Bool} (q : t.R s a) (ex : evE E x = some (.fp a)) (h1 : t.sz = sz) (h2 : t.ag = agg) (k : RD P r S Q ((d, a) :: E) h) : RD P (⟨some d, .load sz agg x, none, hf⟩ :: r) S Q E h := rd_op (ov_load ex (by rw [TR.cnt t q, h1]) (by rw [TR.agg t q, h2])) k
theorem lR {a : PV} {x : Operand} {sz : Nat} {agg : Bool} (ex : evE E x = some (.fp a)) (h1 : cnt a = some sz) (h2 : a.isAgg = agg) (k : RD P r S Q ((d, a) :: E) h) : RD P (⟨some d, .load sz agg x, none, hf⟩ :: r) S Q E h := rd_op (ov_load ex h1 h2) k
/-- A field that holds a number: its address, and what stands there. -/
theorem fL {x : Operand} {a w : PV} {off sz sz2 : Nat} {agg agg2 : Bool} (ex : evE E x = some (.fp a)) (hw : fieldR off sz agg a = some w) (h1 : cnt w = some sz2) (h2 : w.isAgg = agg2) (k : RD P r S Q ((d2, w) :: (d, .fp w) :: E) h) : RD P (⟨some d, .faddr off sz agg x, none, hf⟩ :: ⟨some d2, .load sz2 agg2 (.tmp d), none, hf2⟩ :: r) S Q E h :=
  rd_op (ov_faddr ex hw) (rd_op (ov_load (by simp only [evE, look, Nat.beq_refl, cond_true]) h1 h2) k)
/-- A field that holds a list or a record. -/
theorem gL {β : Type} {t : TR β} {y : β} {x : Operand} {a : PV} {off sz sz2 : Nat} {agg agg2 : Bool} (g : ∃ w, fieldR off sz agg a = some w ∧ t.R y w) (ex : evE E x = some (.fp a)) (h1 : t.sz = sz2) (h2 : t.ag = agg2) (k : ∀ w, t.R y w → RD P r S Q ((d2, w) :: (d, .fp w) :: E) h) : RD P (⟨some d, .faddr off sz agg x, none, hf⟩ :: ⟨some d2, .load sz2 agg2 (.tmp d), none, hf2⟩ :: r) S Q E h := by
  obtain ⟨w, e, q⟩ := g
  exact fL ex e (by rw [TR.cnt t q, h1]) (by rw [TR.agg t q, h2]) (k w q)
theorem cL {g : FuncId} {a1 : List PV} {v : PV} (hfn : FnR P g a1 v) (ef : evE E f = some (.fn (.func g) [] [])) (ea : evL E args = some a1) (hc : closedL a1 = true) (k : RD P r S Q ((d, v) :: E) h) : RD P (⟨some d, .call f args, none, hf⟩ :: r) S Q E h := rd_call (cv_fn ef ea hc hfn) k

/-! A run of operations under a condition -/
/-- The next operations by themselves. -/
theorem rd_cutn (n : Nat) {d : Nat} {v : PV} (H : ∀ (S : List Fr) (Q : Post) (r : List AOper), RD P r S Q ((d, v) :: E) h → RD P (l.take n ++ r) S Q E h) (k : RD P (l.drop n) S Q ((d, v) :: E) h) : RD P l S Q E h := by
  rw [← List.take_append_drop n l]; exact H S Q _ k
/-- The end of a run of operations under a condition. -/
theorem gK {c x y : Operand} {u a b v : PV} (ec : evE E c = some u) (ex : evE E x = some a) (ey : evE E y = some b) (hp : pickR u a b = some v) (s : E0.map (fun p => look p.1 ((d, v) :: E)) = E0.map (fun p => some p.2)) (k : RD P r S Q E0 h) : RD P (⟨some d, .pick c x y, none, hf⟩ :: r) S Q E h :=
  rd_op (ov_pick ec ex ey hp) (rd_weak (sB s) k)
/-- What is told when operations are left out. -/
def skipE : Nat → TEnv → List AOper → Option (TEnv × List AOper)
  | 0, E, l => some (E, l)
  | n + 1, E, ⟨some d, op, some (t, w), hf⟩ :: r => match look t E with
    | some (.sc (.bool b)) => if b = w then none else skipE n ((d, .tup []) :: E) r
    | some (.tup []) => skipE n ((d, .tup []) :: E) r
    | _ => none
  | _, _, _ => none
theorem skips : ∀ (n : Nat) {E E1 : TEnv} {l l1 : List AOper}, skipE n E l = some (E1, l1) → RD P l1 S Q E1 h → RD P l S Q E h
  | 0, E, E1, l, l1, e, k => by simp only [skipE, Option.some.injEq, Prod.mk.injEq] at e; obtain ⟨rfl, rfl⟩ := e; exact k
  | n + 1, E, E1, [], l1, e, k => by simp [skipE] at e
  | n + 1, E, E1, ⟨none, op, g, hf⟩ :: r, l1, e, k => by simp [skipE] at e
  | n + 1, E, E1, ⟨some d, op, none, hf⟩ :: r, l1, e, k => by simp [skipE] at e
  | n + 1, E, E1, ⟨some d, op, some (t, w), hf⟩ :: r, l1, e, k => by
    simp only [skipE] at e
    split at e
    · rename_i b hb
      split at e
      · cases e
      · rename_i hne
        refine rd_skip hb ?_ (skips n e k)
        cases b <;> cases w <;> simp_all
    · rename_i hb
      exact rd_skipU hb (skips n e k)
    · cases e
/-- A run of operations under a condition that does not hold. -/
theorem gN (n : Nat) {E1 : TEnv} {c x y : Operand} {u a b v : PV} (e : skipE n E l = some (E1, ⟨some d, .pick c x y, none, hf⟩ :: r)) (ec : evE E1 c = some u) (ex : evE E1 x = some a) (ey : evE E1 y = some b) (hp : pickR u a b = some v) (s : E0.map (fun p => look p.1 ((d, v) :: E1)) = E0.map (fun p => some p.2)) (k : RD P r S Q E0 h) : RD P l S Q E h :=
  skips n e (gK ec ex ey hp s k)
end
end Go.Pb
