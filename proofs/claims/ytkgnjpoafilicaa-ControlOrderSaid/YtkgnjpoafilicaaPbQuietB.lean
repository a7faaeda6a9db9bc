/-
  Plain library, part 6: the rest of the quiet operations, and one theorem for all.
-/
import Derived.Test.YtkgnjpoafilicaaPbQuiet
set_option linter.unusedVariables false
set_option linter.unusedSimpArgs false
namespace Go.Pb
open Go Go.RowKit

section
variable {P : Program} {x : Cx} {w0 : World} {F0 : Nat → Prop} {h : Heap} {n : Nat} {T : Nat → PV} {a : Act}

theorem good_indexA {o : Oper} {own : List Tmp} {t : TypeId} {y z : Operand} {ao : AOp} {r : PV} (hT : Temps P x n T a) (ho : o.op = .index t y z)
    (hc : compOp P own o.dst o.type (.index t y z) = some ao) (hq : opQ P T h ao = some r) : Good P a x o r := by
  simp only [compOp] at hc
  split at hc
  · simp only [Option.some.injEq] at hc
    subst hc
    exact good_indexS hT ho hq
  · rename_i len e ht
    simp only [Option.bind_eq_bind, Option.bind_eq_some_iff] at hc
    obtain ⟨i, hi, d, hd, hc⟩ := hc
    split at hc
    · cases hc
    rename_i hne
    simp only [Option.pure_def, Option.some.injEq] at hc
    subst hc
    have h1 : aggD d = false → i.size = 1 := fun e => by
      by_cases e1 : i.size = 1
      · exact e1
      · exact absurd ⟨e, e1⟩ hne
    simp only [opQ] at hq
    have hy := hT.ev y
    have hz := hT.ev z
    split at hq
    · rename_i cs kk k hv hk
      rw [hv] at hy
      rw [hk] at hz
      have hz := sc_eq hz
      obtain ⟨us, ey, hr⟩ := hy
      simp only [VRC] at hr
      split at hq
      · rename_i hb
        unfold fieldOf at hq
        split at hq
        · rename_i hsz
          have hul := VRL_length hr
          refine Good.same (v := mkVal (aggD d) ((us.drop (k.toNat * i.size)).take i.size)) ?_ (VR_mkV (VRL_take i.size (VRL_drop _ hr)) hq).1
          simp only [execOp, ho, Instr.index, Sem.run_bind, ey, hz, asIntOf, Sem.run_pure, Result.andThen_ok, run_underlying ht, hb, and_self, if_true, sizeOf, typeInfo, run_program, hi,
            run_part hd hi x.w us _ (show k.toNat * i.size + i.size ≤ us.length by omega) h1]
        · cases hq
      · cases hq
    · cases hq
  · cases hc

theorem exec_bi {o : Oper} {b : Builtin} {args : Array Operand} {ats : Array TypeId} (ho : o.op = .call { callee := .builtin b, args := args, argTypes := ats }) :
    ∃ cs, execOp a.eval o = builtin b ats o.type cs (args.map a.eval) := by
  refine ⟨args.map fun | .const _ => true | _ => false, ?_⟩
  simp only [execOp, ho, resolve]
  rfl

theorem VRV_one {v : PV} {us : List Value} (hv : VRV P x [v] us) : ∃ u, us = [u] ∧ VR P x v u := by
  match us, hv with
  | [u], hv => simp only [VRV] at hv; exact ⟨u, rfl, hv.1⟩
  | [], hv => simp [VRV] at hv
  | _ :: _ :: _, hv => simp [VRV] at hv

theorem good_bi {o : Oper} {b : Builtin} {args : Array Operand} {ats : Array TypeId} {r : PV} (hT : Temps P x n T a) (ho : o.op = .call { callee := .builtin b, args := args, argTypes := ats })
    (hq : opQ P T h (.bi b ats o.type args.toList) = some r) : Good P a x o r := by
  obtain ⟨cs, he⟩ := exec_bi (a := a) ho
  simp only [opQ] at hq
  have hV := VRV_map hT args.toList
  have hargs : args.map a.eval = (args.toList.map a.eval).toArray := Array.ext' (by rw [Array.toList_map])
  unfold biF at hq
  split at hq
  · rename_i vs hvs
    have hu := toVs_eq hV hvs
    split at hq
    all_goals first
      | cases hq; done
      | (simp only [Option.map_eq_some_iff] at hq
         obtain ⟨w, hw, rfl⟩ := hq
         refine Good.const ?_
         rw [he, hargs, hu]
         simp only [builtin, Sem.run_bind, pureRun_run hw x.w, Result.andThen_ok, Sem.run_pure])
  · split at hq
    · rename_i tg0 tight es e hes ht
      simp only [Option.some.injEq] at hq
      subst hq
      rw [hes] at hV
      obtain ⟨u, hu, hr⟩ := VRV_one hV
      simp only [VR, AsVal, PV.isAgg, VRC, List.cons.injEq, and_true] at hr
      obtain ⟨b', o', cap, sz, eu, _⟩ := hr
      simp only [Option.bind_eq_some_iff] at ht
      obtain ⟨t0, ht0, ht⟩ := ht
      refine Good.same (v := .int .i64 es.length) ?_ (VR_ofConst P x (.int .i64 es.length))
      rw [he, hargs, hu, eu]
      simp [builtin, Builtin.len_, ht0, run_underlying ht, goInt]
    · rename_i tg0 id ver off m e hes ht
      simp only [Option.some.injEq] at hq
      subst hq
      rw [hes] at hV
      obtain ⟨u, hu, hr⟩ := VRV_one hV
      simp only [VR, AsVal, PV.isAgg, VRC, List.cons.injEq, and_true] at hr
      obtain ⟨b', cap, _, eu, _⟩ := hr
      simp only [Option.bind_eq_some_iff] at ht
      obtain ⟨t0, ht0, ht⟩ := ht
      refine Good.same (v := .int .i64 m) ?_ (VR_ofConst P x (.int .i64 m))
      rw [he, hargs, hu, eu]
      simp [builtin, Builtin.len_, ht0, run_underlying ht, goInt]
    · rename_i tg0 v m e hes ht
      simp only [Option.some.injEq] at hq
      subst hq
      rw [hes] at hV
      obtain ⟨u, hu, hr⟩ := VRV_one hV
      simp only [Option.bind_eq_some_iff] at ht
      obtain ⟨t0, ht0, ht⟩ := ht
      refine Good.same (v := .int .i64 m) ?_ (VR_ofConst P x (.int .i64 m))
      rw [he, hargs, hu]
      simp [builtin, Builtin.len_, ht0, run_underlying ht, goInt]
    · cases hq

theorem good_extract {o : Oper} {y : Operand} {i : Nat} {r : PV} (hT : Temps P x n T a) (ho : o.op = .extract y i) (hq : opQ P T h (.extract y i) = some r) : Good P a x o r := by
  simp only [opQ] at hq
  have hy := hT.ev y
  split at hq
  · rename_i vs hv
    rw [hv] at hy
    simp only [VR, AsVal, PV.isAgg, VRC, List.cons.injEq, and_true] at hy
    obtain ⟨xs, ey, hr⟩ := hy
    obtain ⟨u, hu, hvr⟩ := VRV_get i hr hq
    refine Good.same (v := u) ?_ hvr
    simp [execOp, ho, Instr.extract, ey, hu]
  · cases hq

/-- A new block that nobody will write: what it holds reads from now on. -/
theorem frozen_new (R : RelP P w0 F0 h x) (us : List Value) (t : TypeId) : let y : Cx := ⟨x.w.alloc (.cells us.toArray t), fun b => x.F b ∨ (True ∧ b = x.w.heap.size), x.J⟩;
    Grow x y ∧ Ext x y ∧ y.F x.w.heap.size ∧ cellsAt y.w x.w.heap.size 0 us := by
  intro y
  have g : Grow x y := Grow.alloc x _ True
  refine ⟨g, R.ext_of_grow g, .inr ⟨trivial, rfl⟩, fun j u hj => ?_⟩
  show (x.w.alloc _).cell? _ = _
  rw [World.cell?_alloc_new]
  simpa using hj

theorem good_boxF {o : Oper} {t : TypeId} {y : Operand} {r : PV} (R : RelP P w0 F0 h x) (hT : Temps P x n T a) (ho : o.op = .box t y) (hq : opQ P T h (.box false t y) = some r) : Good P a x o r := by
  simp only [opQ, Option.map_eq_some_iff] at hq
  obtain ⟨cs, hcs, rfl⟩ := hq
  have hc := VR_cells (hT.ev y) hcs
  obtain ⟨g, e, hF, hcell⟩ := frozen_new R (a.eval y).cells.toList t
  refine ⟨.pointer (some ⟨x.w.heap.size, 0, none⟩), _, ?_, g, ?_⟩
  · simp [execOp, ho, Instr.box, newVar, newRow]
  · refine ⟨x.w.heap.size, 0, (a.eval y).cells.toList, rfl, hF, hcell, VRC_ext e _ _ hc.2⟩

theorem good_allocF {o : Oper} {t : TypeId} {z : Value} {i : TypeInfo} {r : PV} (R : RelP P w0 F0 h x) (ho : o.op = .alloc t) (hi : P.info? t = some i) (hz : i.zero = some z)
    (hq : opQ P T h (.alloc false t z) = some r) : Good P a x o r := by
  simp only [opQ, Option.map_eq_some_iff] at hq
  obtain ⟨cs, hcs, rfl⟩ := hq
  have hc := VR_cells (VR_ofConst P x z) hcs
  obtain ⟨g, e, hF, hcell⟩ := frozen_new R z.cells.toList t
  refine ⟨.pointer (some ⟨x.w.heap.size, 0, none⟩), _, ?_, g, ?_⟩
  · simp [execOp, ho, Instr.alloc, newVar, newRow, zeroValue, typeInfo, hi, hz]
  · refine ⟨x.w.heap.size, 0, z.cells.toList, rfl, hF, hcell, VRC_ext e _ _ hc.2⟩

/-- Cells set one behind the other. -/
theorem foldl_set : ∀ (vs : List Value) (k off : Nat) (arr : List Value), off + k + vs.length ≤ arr.length →
    ((vs.zipIdx k).foldl (fun (cs : Array Value) (p : Value × Nat) => cs.setIfInBounds (off + p.2) p.1) arr.toArray) = (arr.take (off + k) ++ (vs ++ arr.drop (off + k + vs.length))).toArray
  | [], k, off, arr, hl => by simp
  | v :: vs, k, off, arr, hl => by
    simp only [List.zipIdx_cons, List.foldl_cons, List.setIfInBounds_toArray]
    have hl' : off + (k + 1) + vs.length ≤ (arr.set (off + k) v).length := by
      simp only [List.length_set]; simp only [List.length_cons] at hl; omega
    rw [foldl_set vs (k + 1) off (arr.set (off + k) v) hl']
    congr 1
    simp only [List.length_cons] at hl ⊢
    have e1 : (arr.set (off + k) v).take (off + (k + 1)) = arr.take (off + k) ++ [v] := by
      rw [show off + (k + 1) = (off + k) + 1 by omega, List.take_succ_eq_append_getElem (by simp only [List.length_set]; omega), List.getElem_set_self, List.take_set_of_le (by omega)]
    rw [e1, List.append_assoc, List.singleton_append, List.cons_append, List.drop_set_of_lt (by omega)]
    rw [show off + (k + 1) + vs.length = off + k + (vs.length + 1) by omega]

theorem fill_cons {place : Nat → Option (Nat × Nat)} {us : List Value} {i off sz : Nat} {v : Value} {rest : List (Nat × Value)} (hp : place i = some (off, sz)) (hs : v.cells.size = sz) (hl : off + sz ≤ us.length) :
    Instr.fill place us.toArray ((i, v) :: rest) = Instr.fill place (us.take off ++ (v.cells.toList ++ us.drop (off + v.cells.toList.length))).toArray rest := by
  simp only [Instr.fill, hp]
  rw [if_neg (by simp [hs]; omega)]
  congr 1
  rw [← Array.foldl_toList, Array.toList_zipIdx]
  have := foldl_set v.cells.toList 0 off us (by simp [hs]; omega)
  simpa using this

theorem VRL_spl {zs cs : List PV} {us vs : List Value} {off : Nat} (h1 : VRL P x zs us) (h2 : VRL P x cs vs) : VRL P x (spl zs off cs) (us.take off ++ (vs ++ us.drop (off + vs.length))) := by
  unfold spl
  rw [VRL_length h2]
  exact VRL_append (VRL_take off h1) (VRL_append h2 (VRL_drop _ h1))

theorem buildF_fill (hT : Temps P x n T a) {place : Nat → Option (Nat × Nat)} : ∀ (parts : List (Nat × Operand)) (ps : List (Nat × Nat × Operand)) (zs : List PV) (us : List Value) (rs : List PV),
    parts.map (fun p => (place p.1).map fun q => (q.1, q.2, p.2)) = ps.map some → VRL P x zs us → buildF T zs ps = some rs →
    ∃ vs, Instr.fill place us.toArray (parts.map fun p => (p.1, a.eval p.2)) = some vs.toArray ∧ VRL P x rs vs
  | [], [], zs, us, rs, _, hz, hb => by
    simp only [buildF, Option.some.injEq] at hb
    subst hb
    exact ⟨us, rfl, hz⟩
  | [], _ :: _, _, _, _, hp, _, _ => by simp at hp
  | _ :: _, [], _, _, _, hp, _, _ => by simp at hp
  | (i, y) :: parts, (off, sz, y') :: ps, zs, us, rs, hp, hz, hb => by
    simp only [List.map_cons, List.cons.injEq] at hp
    obtain ⟨hp1, hp2⟩ := hp
    simp only [Option.map_eq_some_iff] at hp1
    obtain ⟨q, hq, he⟩ := hp1
    simp only [Prod.mk.injEq] at he
    obtain ⟨rfl, rfl, rfl⟩ := he
    simp only [buildF] at hb
    split at hb
    · rename_i cs hcs
      split at hb
      · rename_i hl
        obtain ⟨h1, h2⟩ := VR_cells (hT.ev y) hcs
        have hlen := VRL_length h1
        have hlz := VRL_length hz
        obtain ⟨vs, hf, hv⟩ := buildF_fill hT parts ps _ _ rs hp2 (VRL_spl (off := q.1) hz h1) hb
        refine ⟨vs, ?_, hv⟩
        simp only [List.map_cons]
        rw [fill_cons (sz := q.2) hq (by rw [← Array.length_toList, hlen, hl.1]) (by omega)]
        exact hf
      · cases hb
    · cases hb

theorem partsAt_map {P : Program} {fs : Array Field} (g : Field → Nat) (hg : ∀ f i, P.info? f.type = some i → g f = i.size) : ∀ (parts : List (Nat × Operand)) (ps : List (Nat × Nat × Operand)), partsAt P fs parts = some ps →
    parts.map (fun p => ((fs.map fun f => (f.offset, g f))[p.1]?).map fun q => (q.1, q.2, p.2)) = ps.map some
  | [], ps, hp => by simp only [partsAt, Option.some.injEq] at hp; subst hp; rfl
  | (i, y) :: r, ps, hp => by
    simp only [partsAt, Option.bind_eq_bind, Option.bind_eq_some_iff, Option.pure_def, Option.some.injEq] at hp
    obtain ⟨f, hf, m, hm, r', hr', rfl⟩ := hp
    have ih := partsAt_map g hg r r' hr'
    simp only [List.map_cons, ih]
    congr 1
    simp only [Array.getElem?_map, hf, Option.map_some, hg f m hm]

theorem partsAtA_map {len sz : Nat} : ∀ (parts : List (Nat × Operand)) (ps : List (Nat × Nat × Operand)), partsAtA len sz parts = some ps →
    parts.map (fun p => ((some (p.1 * sz, sz) : Option (Nat × Nat))).map fun q => (q.1, q.2, p.2)) = ps.map some
  | [], ps, hp => by simp only [partsAtA, Option.some.injEq] at hp; subst hp; rfl
  | (i, y) :: r, ps, hp => by
    simp only [partsAtA] at hp
    split at hp
    · cases hp
    · simp only [Option.bind_eq_bind, Option.bind_eq_some_iff, Option.pure_def, Option.some.injEq] at hp
      obtain ⟨r', hr', rfl⟩ := hp
      have ih := partsAtA_map r r' hr'
      simp only [List.map_cons, ih]
      rfl

theorem run_places {fs : List Field} (w : World) : ∀ (hf : fs.all (fun f => (P.info? f.type).isSome) = true),
    (fs.mapM fun f => (do pure (f.offset, ← sizeOf f.type) : Sem (Nat × Nat))).run P w = .ok (fs.map fun f => (f.offset, P.cellsOf f.type)) w := by
  induction fs with
  | nil => intro _; simp
  | cons f fs ih =>
    intro hf
    simp only [List.all_cons, Bool.and_eq_true] at hf
    obtain ⟨i, hi⟩ := Option.isSome_iff_exists.1 hf.1
    have h1 : (sizeOf f.type).run P w = .ok (P.cellsOf f.type) w := by simp [sizeOf, typeInfo, hi, Program.cellsOf]
    simp only [List.mapM_cons, Sem.run_bind, h1, Result.andThen_ok, Sem.run_pure, ih hf.2, List.map_cons]

theorem good_build {o : Oper} {own : List Tmp} {t : TypeId} {parts : Array (Nat × Operand)} {ao : AOp} {r : PV} (hT : Temps P x n T a) (ho : o.op = .build t parts)
    (hc : compOp P own o.dst o.type (.build t parts) = some ao) (hq : opQ P T h ao = some r) : Good P a x o r := by
  simp only [compOp, Option.bind_eq_bind, Option.bind_eq_some_iff] at hc
  obtain ⟨i, hi, z, hz, hc⟩ := hc
  have hzero : (zeroValue t).run P x.w = .ok z x.w := by simp [zeroValue, typeInfo, hi, hz]
  have hparts : (parts.map fun (i, y) => (i, a.eval y)).toList = parts.toList.map fun p => (p.1, a.eval p.2) := by simp
  split at hc
  · rename_i fs cs ht
    simp only [Option.bind_eq_some_iff] at hc
    obtain ⟨ps, hps, hc⟩ := hc
    split at hc
    · rename_i hall
      simp only [Option.pure_def, Option.some.injEq] at hc
      subst hc
      simp only [opQ, Option.map_eq_some_iff] at hq
      obtain ⟨rs, hb, rfl⟩ := hq
      have hm := partsAt_map (fs := fs) (fun f => P.cellsOf f.type) (fun f i hi => by simp [Program.cellsOf, hi]) _ _ hps
      obtain ⟨vs, hf, hv⟩ := buildF_fill hT (place := fun k => (fs.map fun f => (f.offset, P.cellsOf f.type))[k]?) _ _ _ cs.toList rs hm (VRL_sc P x _ hall.1) hb
      refine Good.same (v := .agg vs.toArray) ?_ ⟨vs, rfl, by simpa [VRC] using hv⟩
      have hpl : (fs.mapM fun f => (do pure (f.offset, ← sizeOf f.type) : Sem (Nat × Nat))).run P x.w = .ok (fs.map fun f => (f.offset, P.cellsOf f.type)) x.w := by
        have := run_places (P := P) x.w hall.2
        rw [Array.mapM_eq_mapM_toList]
        simp only [Sem.run_map, this, Result.andThen_ok]
        rw [← Array.toList_map]
      have hcs : cs = cs.toList.toArray := by simp
      rw [← hcs] at hf
      rw [← hparts] at hf
      simp only [execOp, ho, Instr.build, Sem.run_bind, hzero, Result.andThen_ok, run_underlying ht, hpl, Value.cells, hf, Sem.run_pure]
    · cases hc
  · rename_i len e cs ht
    simp only [Option.bind_eq_some_iff] at hc
    obtain ⟨m, hm, ps, hps, hc⟩ := hc
    split at hc
    · rename_i hall
      simp only [Option.pure_def, Option.some.injEq] at hc
      subst hc
      simp only [opQ, Option.map_eq_some_iff] at hq
      obtain ⟨rs, hb, rfl⟩ := hq
      obtain ⟨vs, hf, hv⟩ := buildF_fill hT (place := fun k => some (k * m.size, m.size)) _ _ _ cs.toList rs (partsAtA_map _ _ hps) (VRL_sc P x _ hall) hb
      refine Good.same (v := .agg vs.toArray) ?_ ⟨vs, rfl, by simpa [VRC] using hv⟩
      have hcs : cs = cs.toList.toArray := by simp
      rw [← hcs] at hf
      rw [← hparts] at hf
      simp only [execOp, ho, Instr.build, Sem.run_bind, hzero, Result.andThen_ok, run_underlying ht, sizeOf, typeInfo, run_program, hm, Value.cells, hf, Sem.run_pure]
    · cases hc
  · cases hc

end
end Go.Pb
