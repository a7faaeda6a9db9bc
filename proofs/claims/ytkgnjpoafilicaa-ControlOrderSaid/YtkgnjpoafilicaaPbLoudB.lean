/-
  Plain library, part 9: what 'opL' says holds of the model's operations.
-/
import Derived.Test.YtkgnjpoafilicaaPbLoud
set_option linter.unusedVariables false
set_option linter.unusedSimpArgs false
namespace Go.Pb
open Go Go.RowKit

section
variable {P : Program} {x : Cx} {w0 : World} {F0 : Nat → Prop} {h : Heap} {n : Nat} {T : Nat → PV} {a : Act}

theorem RelP.newBlk (R : RelP P w0 F0 h x) {t : TypeId} {cs : List PV} {us : Array Value} (hl : cs.length ≤ us.size) (hv : VRL P x cs (us.toList.take cs.length)) :
    let y : Cx := ⟨x.w.alloc (.cells us t), x.F, updJ x.J h.bl.length h.nv x.w.heap.size⟩
    RelP P w0 F0 (newBlk h t cs) y ∧ Ext x y := by
  have := R.newOwn (t := t) (id := h.bl.length) (cs := cs) (us := us) hl hv (bl' := h.bl ++ [.cells h.nv t true cs]) bl_append
  exact this

theorem VRL_take_self {cs : List PV} {us : List Value} (h : VRL P x cs us) : VRL P x cs (us.take cs.length) := by
  rw [← VRL_length h, List.take_length]; exact h

theorem goodL_box {o : Oper} {t : TypeId} {y : Operand} {r : PV} {h' : Heap} (R : RelP P w0 F0 h x) (hT : Temps P x n T a) (ho : o.op = .box t y) (hq : opL T h (.box true t y) = some (r, h')) : GoodL P w0 F0 a x o h.nv r h' := by
  simp only [opL, Option.map_eq_some_iff, Prod.mk.injEq] at hq
  obtain ⟨cs, hcs, rfl, rfl⟩ := hq
  have hc := (VR_cells (hT.ev y) hcs).1
  have hl := VRL_length hc
  obtain ⟨R', E⟩ := R.newBlk (t := t) (us := (a.eval y).cells) (by rw [← Array.length_toList, hl]; exact Nat.le_refl _) (VRL_take_self hc)
  refine ⟨_, .pointer (some ⟨x.w.heap.size, 0, none⟩), _, ?_, .inl rfl, R', E, ?_⟩
  · simp [execOp, ho, Instr.box, newVar, newRow]
  · exact ⟨⟨x.w.heap.size, updJ_new, rfl⟩, updJ_none (.inr (Nat.le_refl _))⟩

theorem goodL_alloc {o : Oper} {t : TypeId} {z : Value} {i : TypeInfo} {r : PV} {h' : Heap} (R : RelP P w0 F0 h x) (ho : o.op = .alloc t) (hi : P.info? t = some i) (hz : i.zero = some z)
    (hq : opL T h (.alloc true t z) = some (r, h')) : GoodL P w0 F0 a x o h.nv r h' := by
  simp only [opL, Option.map_eq_some_iff, Prod.mk.injEq] at hq
  obtain ⟨cs, hcs, rfl, rfl⟩ := hq
  have hc := (VR_cells (VR_ofConst P x z) hcs).1
  have hl := VRL_length hc
  obtain ⟨R', E⟩ := R.newBlk (t := t) (us := z.cells) (by rw [← Array.length_toList, hl]; exact Nat.le_refl _) (VRL_take_self hc)
  refine ⟨_, .pointer (some ⟨x.w.heap.size, 0, none⟩), _, ?_, .inl rfl, R', E, ?_⟩
  · simp [execOp, ho, Instr.alloc, newVar, newRow, zeroValue, typeInfo, hi, hz]
  · exact ⟨⟨x.w.heap.size, updJ_new, rfl⟩, updJ_none (.inr (Nat.le_refl _))⟩

theorem rowCells_VRL (hT : Temps P x n T a) : ∀ (ps : List Operand) {cs : List PV}, rowCells (ps.map (ev T)) = some cs → VRL P x cs (ps.map fun p => (a.eval p).cells.toList).flatten
  | [], cs, h => by simp only [List.map_nil, rowCells, Option.some.injEq] at h; subst h; simp [VRL]
  | p :: ps, cs, h => by
    simp only [List.map_cons, rowCells] at h
    split at h
    · rename_i c d hc hd
      simp only [Option.some.injEq] at h
      subst h
      simp only [List.map_cons, List.flatten_cons]
      exact VRL_append (VR_cells (hT.ev p) hc).1 (rowCells_VRL hT ps hd)
    · cases h

theorem flatten_length {sz : Nat} {β : Type} : ∀ (l : List (List β)), (∀ p ∈ l, p.length = sz) → l.flatten.length = l.length * sz
  | [], _ => by simp
  | p :: l, h => by
    simp only [List.flatten_cons, List.length_append, List.length_cons, Nat.add_mul, Nat.one_mul, h p (List.mem_cons_self ..), flatten_length l fun q hq => h q (List.mem_cons_of_mem _ hq)]
    omega

theorem cells_len (hT : Temps P x n T a) {sz : Nat} : ∀ (ps : List Operand), (ps.map (ev T)).all (fun v => cnt v == some sz) = true → ∀ p ∈ (ps.map fun p => (a.eval p).cells.toList), p.length = sz
  | [], _, p, hp => by cases hp
  | q :: ps, hall, p, hp => by
    simp only [List.map_cons, List.all_cons, Bool.and_eq_true, beq_iff_eq] at hall
    simp only [List.map_cons, List.mem_cons] at hp
    rcases hp with rfl | hp
    · obtain ⟨cs, hcs, hl⟩ := cnt_cells hall.1
      rw [VRL_length (VR_cells (hT.ev q) hcs).1, hl]
    · exact cells_len hT ps hall.2 p hp

theorem goodL_bslice {o : Oper} {own : List Tmp} {t : TypeId} {len : Nat} {parts : Array (Nat × Operand)} {ao : AOp} {r : PV} {h' : Heap} (R : RelP P w0 F0 h x) (hT : Temps P x n T a) (ho : o.op = .buildSlice t len parts)
    (hc : compOp P own o.dst o.type (.buildSlice t len parts) = some ao) (hq : opL T h ao = some (r, h')) : GoodL P w0 F0 a x o h.nv r h' := by
  simp only [compOp] at hc
  split at hc
  · rename_i e ht
    simp only [Option.bind_eq_bind, Option.bind_eq_some_iff] at hc
    obtain ⟨m, hm, z, hz, ps, hps, hc⟩ := hc
    split at hc
    · rename_i hl
      simp only [Option.pure_def, Option.some.injEq] at hc
      subst hc
      cases hown : (o.dst.any fun d => own.contains d) with
      | false => rw [hown] at hq; simp [opL] at hq
      | true =>
        rw [hown] at hq
        simp only [opL] at hq
        split at hq
        · rename_i hall
          simp only [Option.map_eq_some_iff, Prod.mk.injEq] at hq
          obtain ⟨cs, hcs, rfl, rfl⟩ := hq
          have hrun := run_bslice hT ht hm hz hps hl.1 hl.2.1 hl.2.2.2 hall
          have hv := rowCells_VRL hT ps hcs
          have hlen := VRL_length hv
          have hfl := flatten_length _ (cells_len hT ps hall)
          obtain ⟨R', E⟩ := R.newBlk (t := e) (us := (ps.map fun p => (a.eval p).cells.toList).flatten.toArray) (by simp only [List.size_toArray, hlen]; exact Nat.le_refl _) (VRL_take_self hv)
          refine ⟨_, .slice (some ⟨x.w.heap.size, 0, none⟩) len len, _, ?_, .inl rfl, R', E, ?_⟩
          · simp only [execOp, ho, Sem.run_bind, hrun, Result.andThen_ok, Sem.run_pure]
          · refine ⟨?_, updJ_none (.inr (Nat.le_refl _))⟩
            refine ⟨x.w.heap.size, len, updJ_new, by rw [hl.1], by omega, by simp only [maxLen]; omega, fun _ => ⟨_, e, (0, 0), heap_alloc_new _ _, ?_⟩⟩
            simp only [List.size_toArray, hfl, List.length_map, hl.1, Program.cellsOf, hm, Option.map_some, Option.getD_some]
        · cases hq
    · cases hc
  · cases hc

theorem goodL_store {o : Oper} {t : TypeId} {y z : Operand} {i : TypeInfo} {r : PV} {h' : Heap} (R : RelP P w0 F0 h x) (hT : Temps P x n T a) (ho : o.op = .store t y z) (hi : P.info? t = some i)
    (hq : opL T h (.store i.size y z) = some (r, h')) : GoodL P w0 F0 a x o h.nv r h' := by
  simp only [opL] at hq
  split at hq
  · rename_i id ver off hv
    split at hq
    · rename_i ver' ty cs ds hb hds
      split at hq
      · rename_i hcond
        obtain ⟨rfl, hdl, hoff⟩ := hcond
        simp only [Option.some.injEq, Prod.mk.injEq] at hq
        obtain ⟨rfl, rfl⟩ := hq
        have hy := hT.ev y
        rw [hv] at hy
        simp only [VR, AsVal, PV.isAgg, VRC, List.cons.injEq, and_true] at hy
        obtain ⟨b, hj, ey⟩ := hy
        obtain ⟨cur, hcur, hcl, hvr⟩ := own_cells R hb hj
        have hz := (VR_cells (hT.ev z) hds).1
        have hzl := VRL_length hz
        have hone := VRL_one hz
        have hst := run_storeCells_at P b off ty (a.eval z).cells.toList 0 cur x.w hcur (by rw [hzl]; omega) hone
        simp only [Nat.add_zero] at hst
        have hsp : VRL P x (spl cs off ds) ((cur.toList.take off ++ (a.eval z).cells.toList ++ cur.toList.drop (off + (a.eval z).cells.toList.length)).take (spl cs off ds).length) := by
          have h1 := VRL_spl (off := off) hvr hz
          have h2 := VRL_take_self h1
          have hlen : (spl cs off ds).length = cs.length := by simp [spl]; omega
          have e : (cur.toList.take cs.length).take off ++ ((a.eval z).cells.toList ++ (cur.toList.take cs.length).drop (off + (a.eval z).cells.toList.length)) =
              (cur.toList.take off ++ (a.eval z).cells.toList ++ cur.toList.drop (off + (a.eval z).cells.toList.length)).take (spl cs off ds).length := by
            rw [hlen, hzl, List.take_take, Nat.min_eq_left (by omega), List.append_assoc, List.take_append, List.take_append]
            have hcs : cs.length ≤ cur.toList.length := by simpa using hcl
            rw [List.take_of_length_le (l := cur.toList.take off) (by simp; omega), List.take_of_length_le (l := (a.eval z).cells.toList) (by simp only [List.length_take]; omega), List.drop_take]
            congr 2
            simp only [List.length_take]
            congr 1
            omega
          rwa [e] at h1
        obtain ⟨R', E⟩ := R.setOwn (us := (cur.toList.take off ++ (a.eval z).cells.toList ++ cur.toList.drop (off + (a.eval z).cells.toList.length)).toArray) hb hj hcur
          (by have hcs : cs.length ≤ cur.size := hcl
              simp only [List.size_toArray, List.length_append, List.length_take, List.length_drop, Array.length_toList, hzl]; omega)
          (by have hcs : cs.length ≤ cur.size := hcl
              simp only [List.size_toArray, List.length_append, List.length_take, List.length_drop, Array.length_toList, hzl, spl]; omega) hsp (.inl ⟨rfl, rfl⟩) (bl' := h.bl.set id (.cells ver' ty true (spl cs off ds))) bl_set
        refine ⟨.skip, undef, _, ?_, .inr ⟨rfl, rfl⟩, R', E, ⟨[], rfl, by simp [VRV]⟩, updJ_none (.inl (by rw [hj]; simp))⟩
        have hsz : (a.eval z).cells.size = i.size := by rw [← Array.length_toList, hzl, hdl]
        simp only [execOp, ho, Instr.storeAt, ey, Instr.sureAddr, Sem.run_bind, Sem.run_pure, Result.andThen_ok, storeVar, sizeOf, typeInfo, run_program, hi, hsz, ne_eq, not_true_eq_false, if_false, hst]
      · cases hq
    · cases hq
  · cases hq

theorem VRL_rep {us : List Value} (h1 : us.all (·.oneCell') = true) : ∀ (k : Nat), VRL P x (repCells k (us.map .sc)) (List.replicate k us).flatten
  | 0 => by simp [repCells, VRL]
  | k + 1 => by
    have := VRL_rep h1 k
    simp only [repCells, List.replicate_succ, List.flatten_cons] at this ⊢
    exact VRL_append (VRL_sc P x us h1) this

theorem range_mod {zero : Array Value} : ∀ (k : Nat), ((Array.range (k * zero.size)).map (zero[· % zero.size]!)).toList = (List.replicate k zero.toList).flatten
  | 0 => by simp
  | k + 1 => by
    have ih := range_mod (zero := zero) k
    simp only [Array.toList_map, Array.toList_range] at ih ⊢
    rw [Nat.add_mul, Nat.one_mul, List.range_add, List.map_append, ih, List.replicate_succ', List.flatten_append]
    congr 1
    simp only [List.map_map, List.flatten_cons, List.flatten_nil, List.append_nil]
    apply List.ext_getElem
    · simp
    · intro j h1 h2
      simp only [List.length_map, List.length_range] at h1
      simp only [List.getElem_map, List.getElem_range, Function.comp_apply, Array.getElem_toList]
      rw [show (k * zero.size + j) % zero.size = j by rw [Nat.mul_comm, Nat.mul_add_mod, Nat.mod_eq_of_lt h1]]
      simp [h1]

theorem goodL_mkSlice {o : Oper} {own : List Tmp} {t : TypeId} {l c : Operand} {ao : AOp} {r : PV} {h' : Heap} (R : RelP P w0 F0 h x) (hT : Temps P x n T a) (ho : o.op = .makeSlice t l c)
    (hc : compOp P own o.dst o.type (.makeSlice t l c) = some ao) (hq : opL T h ao = some (r, h')) : GoodL P w0 F0 a x o h.nv r h' := by
  simp only [compOp] at hc
  split at hc
  · rename_i e ht
    simp only [Option.bind_eq_bind, Option.bind_eq_some_iff] at hc
    obtain ⟨m, hm, z, hz, hc⟩ := hc
    split at hc
    · rename_i hl
      obtain ⟨hzs, hpos, hone⟩ := hl
      simp only [Option.pure_def, Option.some.injEq] at hc
      subst hc
      simp only [opL] at hq
      split at hq
      · rename_i kl l' kc c' hvl hvc
        split at hq
        · rename_i hcond
          obtain ⟨h0, h1, hf⟩ := hcond
          simp only [Option.some.injEq, Prod.mk.injEq] at hq
          obtain ⟨rfl, rfl⟩ := hq
          have el := hT.ev l
          rw [hvl] at el
          have el := sc_eq el
          have ec := hT.ev c
          rw [hvc] at ec
          have ec := sc_eq ec
          obtain ⟨L, rfl⟩ := Int.eq_ofNat_of_zero_le h0
          obtain ⟨C, rfl⟩ := Int.eq_ofNat_of_zero_le (Int.le_trans h0 h1)
          simp only [Int.toNat_natCast] at hf ⊢
          simp only [fits, decide_eq_true_eq] at hf
          have hLC : L ≤ C := by omega
          have hwl : IntKind.i64.wrap (L : Int) = L := IntWalk.i64_in _ (by omega)
          have hwc : IntKind.i64.wrap (C : Int) = C := IntWalk.i64_in _ (by omega)
          have hbc : ((m.bytes : Int) * (C : Int)) = ((C * m.bytes : Nat) : Int) := by rw [Nat.mul_comm]; exact (Int.natCast_mul _ _).symm
          have hbl : ((m.bytes : Int) * (L : Int)) = ((L * m.bytes : Nat) : Int) := by rw [Nat.mul_comm]; exact (Int.natCast_mul _ _).symm
          have hlc : L * m.bytes ≤ C * m.bytes := Nat.mul_le_mul_right _ hLC
          have hrun : (Instr.makeSlice t (.int kl L) (.int kc C)).run P x.w = .ok (.slice (some ⟨x.w.heap.size, 0, none⟩) L C) (x.w.alloc (.cells (List.replicate C z.cells.toList).flatten.toArray e)) := by
            have hz0 : (zeroValue e).run P x.w = .ok z x.w := by simp [zeroValue, typeInfo, hm, hz]
            have hn1 : ¬ ((C : Int) < 0) := by omega
            have hn2 : ¬ ((L : Int) < 0) := by omega
            have hn3 : ¬ ((L : Int) > (C : Int)) := by omega
            have hn4 : ¬ ((m.bytes : Int) * (C : Int) > 2 ^ 48) := by rw [hbc]; omega
            have hcs : (Array.map (fun i => z.cells[i % z.cells.size]!) (Array.range (C * m.size))) = (List.replicate C z.cells.toList).flatten.toArray := by
              have := range_mod (zero := z.cells) C
              rw [hzs] at this
              rw [← this, Array.toArray_toList, hzs]
            simp only [Instr.makeSlice, Sem.run_bind, run_underlying ht, Result.andThen_ok, asInt, asIntOf, Sem.run_pure, typeInfo, run_program, hm, hwl, hwc]
            simp only [hn1, hn2, hn3, hn4, decide_false, Bool.or_false, Bool.false_or, Bool.or_self, Bool.false_eq_true, if_false, Sem.run_bind, run_askRoom, Result.andThen_ok, sizeOf, typeInfo, run_program, hm, Sem.run_pure, Int.toNat_natCast]
            by_cases hz' : C * m.size = 0
            · simp only [hz', if_true, Sem.run_bind, Sem.run_pure, Result.andThen_ok, newRow, run_newObj]
              have hC0 : C = 0 := by
                rcases Nat.mul_eq_zero.1 hz' with h | h
                · exact h
                · omega
              subst hC0
              have hr0 : ∀ (f : Nat → Value), Array.map f (Array.range 0) = #[] := fun f => Array.eq_empty_of_size_eq_zero (by simp)
              simp [hr0]
            · simp only [hz', if_false, Sem.run_bind, hz0, Sem.run_pure, Result.andThen_ok, newRow, run_newObj, hcs]
              rfl
          have hall : z.cells.toList.all (·.oneCell') = true := hone
          have hfl : (List.replicate C z.cells.toList).flatten.length = C * m.size := by
            rw [flatten_length (sz := m.size) _ (fun p hp => by rw [(List.mem_replicate.1 hp).2, Array.length_toList, hzs])]
            simp
          have hv : VRL P x (repCells L (z.cells.toList.map .sc)) ((List.replicate C z.cells.toList).flatten.take (repCells L (z.cells.toList.map .sc)).length) := by
            have h2 := VRL_rep (P := P) (x := x) hall L
            have h3 := VRL_length h2
            have : (List.replicate C z.cells.toList).flatten = (List.replicate L z.cells.toList).flatten ++ (List.replicate (C - L) z.cells.toList).flatten := by
              rw [← List.flatten_append, List.replicate_append_replicate, show L + (C - L) = C by omega]
            rw [this, List.take_append_of_le_length (by omega), ← h3, List.take_length]
            exact h2
          have hrl : (repCells L (z.cells.toList.map .sc)).length = L * m.size := by
            unfold repCells
            rw [flatten_length (sz := m.size) _ (fun p hp => by rw [(List.mem_replicate.1 hp).2]; simp [hzs])]
            simp
          obtain ⟨R', E⟩ := R.newBlk (t := e) (us := (List.replicate C z.cells.toList).flatten.toArray) (by rw [List.size_toArray, hfl, hrl]; exact Nat.mul_le_mul_right _ hLC) hv
          refine ⟨_, .slice (some ⟨x.w.heap.size, 0, none⟩) L C, _, ?_, .inl rfl, R', E, ?_⟩
          · simp only [execOp, ho, Sem.run_bind, el, ec, hrun, Result.andThen_ok, Sem.run_pure]
          · refine ⟨?_, updJ_none (.inr (Nat.le_refl _))⟩
            refine ⟨x.w.heap.size, C, updJ_new, rfl, hLC, by simp only [maxLen]; omega, fun _ => ⟨_, e, (0, 0), heap_alloc_new _ _, ?_⟩⟩
            simp only [List.size_toArray, hfl, Program.cellsOf, hm, Option.map_some, Option.getD_some]
        · cases hq
      · cases hq
    · cases hc
  · cases hc


/-! The operations that make a block of the call's own, whatever place and number it is given. -/
def opA (T : Nat → PV) : AOp → Option (TypeId × List PV × Option Nat)
  | .box true t x => (ev T x).cellsOf.map fun cs => (t, cs, none)
  | .alloc true t z => (PV.ofConst z).cellsOf.map fun cs => (t, cs, none)
  | .bslice true e sz z parts => if (parts.map (ev T)).all (fun v => cnt v == some sz) then (rowCells (parts.map (ev T))).map fun cs => (e, cs, some parts.length) else none
  | .mkSlice e sz bytes z l c => match ev T l, ev T c with
    | .sc (.int _ l), .sc (.int _ c) => if 0 ≤ l ∧ l ≤ c ∧ fits c.toNat bytes = true then some (e, repCells l.toNat (z.cells.toList.map .sc), some l.toNat) else none
    | _, _ => none
  | _ => none

def mkOwn : Option Nat → Nat → Nat → PV
  | none, id, ver => .op id ver 0
  | some n, id, ver => .os id ver 0 n

def AOp.isA : AOp → Bool
  | .box true _ _ | .alloc true _ _ | .bslice true _ _ _ _ | .mkSlice _ _ _ _ _ _ => true
  | _ => false

theorem opA_of_opL {ao : AOp} {r : PV} {h' : Heap} (hi : ao.isA = true) (hq : opL T h ao = some (r, h')) : ∃ t cs k, opA T ao = some (t, cs, k) ∧ r = mkOwn k h.bl.length h.nv ∧ h' = Pb.newBlk h t cs := by
  unfold AOp.isA at hi
  split at hi
  · simp only [opL, Option.map_eq_some_iff, Prod.mk.injEq] at hq
    obtain ⟨cs, hcs, rfl, rfl⟩ := hq
    exact ⟨_, _, none, by simp only [opA, hcs, Option.map_some], rfl, rfl⟩
  · simp only [opL, Option.map_eq_some_iff, Prod.mk.injEq] at hq
    obtain ⟨cs, hcs, rfl, rfl⟩ := hq
    exact ⟨_, _, none, by simp only [opA, hcs, Option.map_some], rfl, rfl⟩
  · simp only [opL] at hq
    split at hq
    · rename_i hall
      simp only [Option.map_eq_some_iff, Prod.mk.injEq] at hq
      obtain ⟨cs, hcs, rfl, rfl⟩ := hq
      exact ⟨_, _, some _, by simp only [opA, hall, if_true, hcs, Option.map_some], rfl, rfl⟩
    · cases hq
  · simp only [opL] at hq
    split at hq
    · rename_i hvl hvc
      split at hq
      · rename_i hcond
        simp only [Option.some.injEq, Prod.mk.injEq] at hq
        obtain ⟨rfl, rfl⟩ := hq
        exact ⟨_, _, some _, by simp only [opA, hvl, hvc, hcond, and_self, if_true], rfl, rfl⟩
      · cases hq
    · cases hq
  · cases hi

def MadeA (P : Program) (a : Act) (x : Cx) (o : Oper) (t : TypeId) (cs : List PV) (k : Option Nat) : Prop :=
  ∃ us v, (execOp a.eval o).run P x.w = .ok (.value v) (x.w.alloc (.cells us t)) ∧ cs.length ≤ us.size ∧ VRL P x cs (us.toList.take cs.length) ∧
    ∀ (y : Cx) id ver, y.J id ver = some x.w.heap.size → y.w.heap[x.w.heap.size]? = some (.cells us t (0, 0)) → VR P y (mkOwn k id ver) v

theorem madeA_box {o : Oper} {t t' : TypeId} {y : Operand} {cs : List PV} {k : Option Nat} (hT : Temps P x n T a) (ho : o.op = .box t y) (hq : opA T (.box true t y) = some (t', cs, k)) : MadeA P a x o t' cs k := by
  simp only [opA, Option.map_eq_some_iff, Prod.mk.injEq] at hq
  obtain ⟨cs, hcs, rfl, rfl, rfl⟩ := hq
  have hc := (VR_cells (hT.ev y) hcs).1
  have hl := VRL_length hc
  refine ⟨(a.eval y).cells, .pointer (some ⟨x.w.heap.size, 0, none⟩), ?_, by rw [← Array.length_toList, hl]; exact Nat.le_refl _, VRL_take_self hc, fun y id ver hj _ => ⟨_, hj, rfl⟩⟩
  simp [execOp, ho, Instr.box, newVar, newRow]

theorem madeA_alloc {o : Oper} {t t' : TypeId} {z : Value} {i : TypeInfo} {cs : List PV} {k : Option Nat} (ho : o.op = .alloc t) (hi : P.info? t = some i) (hz : i.zero = some z)
    (hq : opA T (.alloc true t z) = some (t', cs, k)) : MadeA P a x o t' cs k := by
  simp only [opA, Option.map_eq_some_iff, Prod.mk.injEq] at hq
  obtain ⟨cs, hcs, rfl, rfl, rfl⟩ := hq
  have hc := (VR_cells (VR_ofConst P x z) hcs).1
  have hl := VRL_length hc
  refine ⟨z.cells, .pointer (some ⟨x.w.heap.size, 0, none⟩), ?_, by rw [← Array.length_toList, hl]; exact Nat.le_refl _, VRL_take_self hc, fun y id ver hj _ => ⟨_, hj, rfl⟩⟩
  simp [execOp, ho, Instr.alloc, newVar, newRow, zeroValue, typeInfo, hi, hz]

theorem madeA_bslice {o : Oper} {own : List Tmp} {t : TypeId} {len : Nat} {parts : Array (Nat × Operand)} {ao : AOp} {t' : TypeId} {cs : List PV} {k : Option Nat} (hT : Temps P x n T a) (ho : o.op = .buildSlice t len parts)
    (hc : compOp P own o.dst o.type (.buildSlice t len parts) = some ao) (hq : opA T ao = some (t', cs, k)) : MadeA P a x o t' cs k := by
  simp only [compOp] at hc
  split at hc
  · rename_i e ht
    simp only [Option.bind_eq_bind, Option.bind_eq_some_iff] at hc
    obtain ⟨m, hm, z, hz, ps, hps, hc⟩ := hc
    split at hc
    · rename_i hl
      simp only [Option.pure_def, Option.some.injEq] at hc
      subst hc
      cases hown : (o.dst.any fun d => own.contains d) with
      | false => rw [hown] at hq; simp [opA] at hq
      | true =>
        rw [hown] at hq
        simp only [opA] at hq
        split at hq
        · rename_i hall
          simp only [Option.map_eq_some_iff, Prod.mk.injEq] at hq
          obtain ⟨cs, hcs, rfl, rfl, rfl⟩ := hq
          have hrun := run_bslice hT ht hm hz hps hl.1 hl.2.1 hl.2.2.2 hall
          have hv := rowCells_VRL hT ps hcs
          have hlen := VRL_length hv
          have hfl := flatten_length _ (cells_len hT ps hall)
          refine ⟨(ps.map fun p => (a.eval p).cells.toList).flatten.toArray, .slice (some ⟨x.w.heap.size, 0, none⟩) len len, ?_, by simp only [List.size_toArray, hlen]; exact Nat.le_refl _, VRL_take_self hv, fun y id ver hj hcell => ?_⟩
          · simp only [execOp, ho, Sem.run_bind, hrun, Result.andThen_ok, Sem.run_pure]
          · refine ⟨x.w.heap.size, len, hj, by rw [hl.1], by omega, by simp only [maxLen]; omega, fun _ => ⟨_, e, (0, 0), hcell, ?_⟩⟩
            simp only [List.size_toArray, hfl, List.length_map, hl.1, Program.cellsOf, hm, Option.map_some, Option.getD_some]
        · cases hq
    · cases hc
  · cases hc

theorem madeA_mkSlice {o : Oper} {own : List Tmp} {t : TypeId} {l c : Operand} {ao : AOp} {t' : TypeId} {cs : List PV} {k : Option Nat} (hT : Temps P x n T a) (ho : o.op = .makeSlice t l c)
    (hc : compOp P own o.dst o.type (.makeSlice t l c) = some ao) (hq : opA T ao = some (t', cs, k)) : MadeA P a x o t' cs k := by
  simp only [compOp] at hc
  split at hc
  · rename_i e ht
    simp only [Option.bind_eq_bind, Option.bind_eq_some_iff] at hc
    obtain ⟨m, hm, z, hz, hc⟩ := hc
    split at hc
    · rename_i hl
      obtain ⟨hzs, hpos, hone⟩ := hl
      simp only [Option.pure_def, Option.some.injEq] at hc
      subst hc
      simp only [opA] at hq
      split at hq
      · rename_i kl l' kc c' hvl hvc
        split at hq
        · rename_i hcond
          obtain ⟨h0, h1, hf⟩ := hcond
          simp only [Option.some.injEq, Prod.mk.injEq] at hq
          obtain ⟨rfl, rfl, rfl⟩ := hq
          have el := hT.ev l
          rw [hvl] at el
          have el := sc_eq el
          have ec := hT.ev c
          rw [hvc] at ec
          have ec := sc_eq ec
          obtain ⟨L, rfl⟩ := Int.eq_ofNat_of_zero_le h0
          obtain ⟨C, rfl⟩ := Int.eq_ofNat_of_zero_le (Int.le_trans h0 h1)
          simp only [Int.toNat_natCast] at hf ⊢
          simp only [fits, decide_eq_true_eq] at hf
          have hLC : L ≤ C := by omega
          have hwl : IntKind.i64.wrap (L : Int) = L := IntWalk.i64_in _ (by omega)
          have hwc : IntKind.i64.wrap (C : Int) = C := IntWalk.i64_in _ (by omega)
          have hbc : ((m.bytes : Int) * (C : Int)) = ((C * m.bytes : Nat) : Int) := by rw [Nat.mul_comm]; exact (Int.natCast_mul _ _).symm
          have hbl : ((m.bytes : Int) * (L : Int)) = ((L * m.bytes : Nat) : Int) := by rw [Nat.mul_comm]; exact (Int.natCast_mul _ _).symm
          have hlc : L * m.bytes ≤ C * m.bytes := Nat.mul_le_mul_right _ hLC
          have hrun : (Instr.makeSlice t (.int kl L) (.int kc C)).run P x.w = .ok (.slice (some ⟨x.w.heap.size, 0, none⟩) L C) (x.w.alloc (.cells (List.replicate C z.cells.toList).flatten.toArray e)) := by
            have hz0 : (zeroValue e).run P x.w = .ok z x.w := by simp [zeroValue, typeInfo, hm, hz]
            have hn1 : ¬ ((C : Int) < 0) := by omega
            have hn2 : ¬ ((L : Int) < 0) := by omega
            have hn3 : ¬ ((L : Int) > (C : Int)) := by omega
            have hn4 : ¬ ((m.bytes : Int) * (C : Int) > 2 ^ 48) := by rw [hbc]; omega
            have hcs : (Array.map (fun i => z.cells[i % z.cells.size]!) (Array.range (C * m.size))) = (List.replicate C z.cells.toList).flatten.toArray := by
              have := range_mod (zero := z.cells) C
              rw [hzs] at this
              rw [← this, Array.toArray_toList, hzs]
            simp only [Instr.makeSlice, Sem.run_bind, run_underlying ht, Result.andThen_ok, asInt, asIntOf, Sem.run_pure, typeInfo, run_program, hm, hwl, hwc]
            simp only [hn1, hn2, hn3, hn4, decide_false, Bool.or_false, Bool.false_or, Bool.or_self, Bool.false_eq_true, if_false, Sem.run_bind, run_askRoom, Result.andThen_ok, sizeOf, typeInfo, run_program, hm, Sem.run_pure, Int.toNat_natCast]
            by_cases hz' : C * m.size = 0
            · simp only [hz', if_true, Sem.run_bind, Sem.run_pure, Result.andThen_ok, newRow, run_newObj]
              have hC0 : C = 0 := by
                rcases Nat.mul_eq_zero.1 hz' with h | h
                · exact h
                · omega
              subst hC0
              have hr0 : ∀ (f : Nat → Value), Array.map f (Array.range 0) = #[] := fun f => Array.eq_empty_of_size_eq_zero (by simp)
              simp [hr0]
            · simp only [hz', if_false, Sem.run_bind, hz0, Sem.run_pure, Result.andThen_ok, newRow, run_newObj, hcs]
              rfl
          have hall : z.cells.toList.all (·.oneCell') = true := hone
          have hfl : (List.replicate C z.cells.toList).flatten.length = C * m.size := by
            rw [flatten_length (sz := m.size) _ (fun p hp => by rw [(List.mem_replicate.1 hp).2, Array.length_toList, hzs])]
            simp
          have hv : VRL P x (repCells L (z.cells.toList.map .sc)) ((List.replicate C z.cells.toList).flatten.take (repCells L (z.cells.toList.map .sc)).length) := by
            have h2 := VRL_rep (P := P) (x := x) hall L
            have h3 := VRL_length h2
            have : (List.replicate C z.cells.toList).flatten = (List.replicate L z.cells.toList).flatten ++ (List.replicate (C - L) z.cells.toList).flatten := by
              rw [← List.flatten_append, List.replicate_append_replicate, show L + (C - L) = C by omega]
            rw [this, List.take_append_of_le_length (by omega), ← h3, List.take_length]
            exact h2
          have hrl : (repCells L (z.cells.toList.map .sc)).length = L * m.size := by
            unfold repCells
            rw [flatten_length (sz := m.size) _ (fun p hp => by rw [(List.mem_replicate.1 hp).2]; simp [hzs])]
            simp
          refine ⟨(List.replicate C z.cells.toList).flatten.toArray, .slice (some ⟨x.w.heap.size, 0, none⟩) L C, ?_, by rw [List.size_toArray, hfl, hrl]; exact Nat.mul_le_mul_right _ hLC, hv, fun y id ver hj hcell => ?_⟩
          · simp only [execOp, ho, Sem.run_bind, el, ec, hrun, Result.andThen_ok, Sem.run_pure]
          · refine ⟨x.w.heap.size, C, hj, rfl, hLC, by simp only [maxLen]; omega, fun _ => ⟨_, e, (0, 0), hcell, ?_⟩⟩
            simp only [List.size_toArray, hfl, Program.cellsOf, hm, Option.map_some, Option.getD_some]
        · cases hq
      · cases hq
    · cases hc
  · cases hc

end
end Go.Pb
