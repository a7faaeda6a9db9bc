/-
  Plain library, part 5: what 'opQ' says holds of the model's operations.
-/
import Derived.Test.YtkgnjpoafilicaaPbOps
set_option linter.unusedVariables false
set_option linter.unusedSimpArgs false
namespace Go.Pb
open Go Go.RowKit

section
variable {P : Program} {x : Cx} {w0 : World} {F0 : Nat → Prop} {h : Heap} {n : Nat} {T : Nat → PV} {a : Act}

def Good (P : Program) (a : Act) (x : Cx) (o : Oper) (r : PV) : Prop := ∃ v y, (execOp a.eval o).run P x.w = .ok (.value v) y.w ∧ Grow x y ∧ VR P y r v

theorem Good.same {o : Oper} {r : PV} {v : Value} (hv : (execOp a.eval o).run P x.w = .ok (.value v) x.w) (hr : VR P x r v) : Good P a x o r := ⟨v, x, hv, Grow.refl x, hr⟩

theorem Good.const {o : Oper} {v : Value} (hv : (execOp a.eval o).run P x.w = .ok (.value v) x.w) : Good P a x o (.ofConst v) := ⟨v, x, hv, Grow.refl x, VR_ofConst P x v⟩

theorem sc_eq {v u : Value} (hv : VR P x (.sc v) u) : u = v := by
  have h1 : VRC P x (.sc v) [u] := hv
  simp only [VRC, List.cons.injEq, and_true] at h1
  exact h1.1

theorem good_move {o : Oper} (y : Operand) (hT : Temps P x n T a) (ho : o.op = .move y ∨ o.op = .assign y) : Good P a x o (ev T y) := by
  refine Good.same (v := a.eval y) ?_ (hT.ev y)
  rcases ho with ho | ho <;> simp [execOp, ho]

theorem good_pick {o : Oper} {c y z : Operand} {r : PV} (hT : Temps P x n T a) (ho : o.op = .pick c y z) (hq : opQ P T h (.pick c y z) = some r) : Good P a x o r := by
  simp only [opQ] at hq
  split at hq
  · rename_i b hb
    simp only [Option.some.injEq] at hq
    subst hq
    have hc := hT.ev c
    rw [hb] at hc
    have hc := sc_eq hc
    refine Good.same (v := if b then a.eval y else a.eval z) ?_ ?_
    · simp [execOp, ho, hc, asBool]
    · cases b
      · simpa using hT.ev z
      · simpa using hT.ev y
  · cases hq

def nilVal : TypeDesc → Value → Value → Bool
  | .slice _, .slice none _ _, .slice (some _) _ _ | .slice _, .slice (some _) _ _, .slice none _ _ => true
  | .pointer _, .pointer none, .pointer (some _) | .pointer _, .pointer (some _), .pointer none => true
  | .func _ _ _, .nilFunc, .func _ _ _ | .func _ _ _, .func _ _ _, .nilFunc => true
  | .interface _, .nilIface, .iface _ _ | .interface _, .iface _ _, .nilIface => true
  | .map _ _, .map none, .map (some _) | .map _ _, .map (some _), .map none => true
  | _, _, _ => false

theorem nilVal_of {d : TypeDesc} {y z : PV} {p q : Value} (hy : VR P x y p) (hz : VR P x z q) (hn : nilVs d y z = true) : nilVal d p q = true := by
  unfold nilVs at hn
  split at hn
  all_goals first
    | cases hn; done
    | skip
  all_goals
    simp only [VR, AsVal, PV.isAgg, VRC, List.cons.injEq, and_true] at hy hz
    try obtain ⟨rfl, _⟩ := hy
    try obtain ⟨rfl, _⟩ := hz
    try obtain ⟨b, o, cap, sz, rfl, _⟩ := hy
    try obtain ⟨b, o, cap, sz, rfl, _⟩ := hz
    try obtain ⟨b, o, xs, rfl, _⟩ := hy
    try obtain ⟨b, o, xs, rfl, _⟩ := hz
    try obtain ⟨b, cap, _, rfl, _⟩ := hy
    try obtain ⟨b, cap, _, rfl, _⟩ := hz
    try obtain ⟨b, _, rfl⟩ := hy
    try obtain ⟨b, _, rfl⟩ := hz
    try obtain ⟨b, _, rfl, _⟩ := hy
    try obtain ⟨b, _, rfl, _⟩ := hz
    try obtain ⟨b, rfl, _⟩ := hy
    try obtain ⟨b, rfl, _⟩ := hz
    rfl

theorem nil_equal {d : TypeDesc} {t : TypeId} {p q : Value} (hd : P.underlying t = some d) (hn : nilVal d p q = true) (k : Nat) (w : World) : (Op.equalIn (k + 1) t p q).run P w = .ok false w := by
  unfold nilVal at hn
  split at hn
  all_goals first
    | cases hn; done
    | simp [Op.equalIn, run_underlying hd]

theorem nil_rest {d : TypeDesc} {t : TypeId} {p q : Value} (hn : nilVal d p q = true) (op : BinOp) (ox oy : Operand) (w : World) :
    (eqGuard op t ox oy p q).run P w = .ok () w ∧ binOp .eql t p q = (do pure (.bool (← Op.equal t p q))) ∧ binOp .neq t p q = (do pure (.bool (!(← Op.equal t p q)))) := by
  unfold nilVal at hn
  split at hn
  all_goals first
    | cases hn; done
    | refine ⟨?_, rfl, rfl⟩
  all_goals (unfold eqGuard; simp only [Sem.run_bind, Sem.run_ite]; cases op <;> simp)

theorem bin_same {op : BinOp} {t : TypeId} {ox oy : Operand} {p q : Value} {y z r : PV} (hy : VR P x y p) (hz : VR P x z q) (hq : binF P op t ox oy y z = some r) :
    ∃ v, (do eqGuard op t ox oy p q; binOp op t p q : Sem Value).run P x.w = .ok v x.w ∧ VR P x r v := by
  unfold binF at hq
  split at hq
  · rename_i u v hu hv
    have e1 := toV_eq hy hu
    have e2 := toV_eq hz hv
    subst e1 e2
    simp only [Option.map_eq_some_iff] at hq
    obtain ⟨w, hw, rfl⟩ := hq
    exact ⟨w, pureRun_run hw x.w, VR_ofConst P x w⟩
  · split at hq
    · rename_i d hd
      split at hq
      · rename_i hn
        simp only [Option.some.injEq] at hq
        subst hq
        have hv := nilVal_of hy hz hn
        obtain ⟨k2, k3, _⟩ := nil_rest (P := P) (t := t) hv .eql ox oy x.w
        have k1 : (Op.equal t p q).run P x.w = .ok false x.w := nil_equal hd hv 9999 x.w
        exact ⟨.bool false, by simp only [Sem.run_bind, k2, Result.andThen_ok, k3, k1]; rfl, VR_ofConst P x (.bool false)⟩
      · cases hq
    · rename_i d hd
      split at hq
      · rename_i hn
        simp only [Option.some.injEq] at hq
        subst hq
        have hv := nilVal_of hy hz hn
        obtain ⟨k2, _, k3⟩ := nil_rest (P := P) (t := t) hv .neq ox oy x.w
        have k1 : (Op.equal t p q).run P x.w = .ok false x.w := nil_equal hd hv 9999 x.w
        exact ⟨.bool true, by simp only [Sem.run_bind, k2, Result.andThen_ok, k3, k1]; rfl, VR_ofConst P x (.bool true)⟩
      · cases hq
    · cases hq

theorem good_bin {o : Oper} {op : BinOp} {t t' : TypeId} {y z : Operand} {r : PV} (hT : Temps P x n T a) (ho : o.op = .binOp op t y z t') (hq : opQ P T h (.bin op t y z) = some r) : Good P a x o r := by
  simp only [opQ] at hq
  obtain ⟨v, hv, hr⟩ := bin_same (hT.ev y) (hT.ev z) hq
  refine Good.same (v := v) ?_ hr
  have : (execOp a.eval o) = (do let u ← (do eqGuard op t y z (a.eval y) (a.eval z); binOp op t (a.eval y) (a.eval z)); pure (.value u)) := by simp only [execOp, ho]
  rw [this, Sem.run_bind, hv]
  rfl

theorem good_un {o : Oper} {op : UnOp} {t : TypeId} {y : Operand} {r : PV} (hT : Temps P x n T a) (ho : o.op = .unOp op t y) (hq : opQ P T h (.un op y) = some r) : Good P a x o r := by
  simp only [opQ] at hq
  split at hq
  · rename_i u hu
    have e := toV_eq (hT.ev y) hu
    simp only [Option.map_eq_some_iff] at hq
    obtain ⟨w, hw, rfl⟩ := hq
    refine Good.const ?_
    simp only [execOp, ho, Sem.run_bind, e, pureRun_run hw x.w, Result.andThen_ok, Sem.run_pure]
  · cases hq

theorem good_conv {o : Oper} {s d : TypeId} {y : Operand} {r : PV} (hT : Temps P x n T a) (ho : o.op = .convert s d y) (hq : opQ P T h (.conv s d y) = some r) : Good P a x o r := by
  simp only [opQ] at hq
  split at hq
  · rename_i u hu
    have e := toV_eq (hT.ev y) hu
    simp only [Option.map_eq_some_iff] at hq
    obtain ⟨w, hw, rfl⟩ := hq
    refine Good.const ?_
    simp only [execOp, ho, Sem.run_bind, e, pureRun_run hw x.w, Result.andThen_ok, Sem.run_pure]
  · cases hq

theorem good_indexS {o : Oper} {t : TypeId} {y z : Operand} {r : PV} (hT : Temps P x n T a) (ho : o.op = .index t y z) (hq : opQ P T h (.indexS t y z) = some r) : Good P a x o r := by
  simp only [opQ] at hq
  split at hq
  · rename_i u u' hu hu'
    have e := toV_eq (hT.ev y) hu
    have e' := toV_eq (hT.ev z) hu'
    simp only [Option.map_eq_some_iff] at hq
    obtain ⟨w, hw, rfl⟩ := hq
    refine Good.const ?_
    simp only [execOp, ho, Sem.run_bind, e, e', pureRun_run hw x.w, Result.andThen_ok, Sem.run_pure]
  · cases hq

/-- Own memory that is known, in the world. -/
theorem own_cells (R : RelP P w0 F0 h x) {id ver b : Nat} {ty : TypeId} {mt : Bool} {cs : List PV} (hb : h.bl[id]? = some (.cells ver ty mt cs)) (hj : x.J id ver = some b) :
    ∃ cur, x.w.heap[b]? = some (.cells cur ty (0, 0)) ∧ cs.length ≤ cur.size ∧ VRL P x cs (cur.toList.take cs.length) := ((R.hr id _ hb) b hj).1

theorem VRL_seg {cs : List PV} {cur : Array Value} (hl : cs.length ≤ cur.size) (hv : VRL P x cs (cur.toList.take cs.length)) (off sz : Nat) (hs : off + sz ≤ cs.length) :
    VRL P x ((cs.drop off).take sz) ((cur.toList.drop off).take sz) := by
  have h1 := VRL_take sz (VRL_drop off hv)
  have e : ((cur.toList.take cs.length).drop off).take sz = (cur.toList.drop off).take sz := by
    rw [List.drop_take, List.take_take, Nat.min_eq_left (by omega)]
  rwa [e] at h1

theorem good_load {o : Oper} {own : List Tmp} {t : TypeId} {y : Operand} {ao : AOp} {r : PV} (R : RelP P w0 F0 h x) (hT : Temps P x n T a) (ho : o.op = .load t y)
    (hc : compOp P own o.dst o.type (.load t y) = some ao) (hq : opQ P T h ao = some r) : Good P a x o r := by
  simp only [compOp, Option.bind_eq_bind, Option.bind_eq_some_iff] at hc
  obtain ⟨i, hi, d, hd, hc⟩ := hc
  split at hc
  · cases hc
  rename_i hne
  simp only [Option.pure_def, Option.some.injEq] at hc
  subst hc
  have h1 : aggD d = false → i.size = 1 := fun e => by
    by_cases e1 : i.size = 1
    · exact e1
    · exact absurd ⟨e, e1⟩ hne
  simp only [opQ] at hq
  have hy := hT.ev y
  split at hq
  · rename_i v hv
    split at hq
    · rename_i hcv
      simp only [Option.some.injEq] at hq
      subst hq
      rw [hv] at hy
      simp only [VR, AsVal, PV.isAgg, VRC, List.cons.injEq, and_true] at hy
      obtain ⟨b, off, xs, e, hF, hcs, hr⟩ := hy
      refine Good.same (v := mkVal (aggD d) xs) ?_ (VR_of_VRC hr ⟨_, hcv.1⟩ hcv.2)
      simp only [execOp, ho, Instr.loadAt, e, Instr.sureAddr, Sem.run_bind, Sem.run_pure, Result.andThen_ok, run_loadVar hd hi hcs (cnt_length hr hcv.1) h1]
    · cases hq
  · rename_i id ver off hv
    rw [hv] at hy
    simp only [VR, AsVal, PV.isAgg, VRC, List.cons.injEq, and_true] at hy
    obtain ⟨b, hj, e⟩ := hy
    split at hq
    · rename_i ver' ty mt cs hb
      split at hq
      · rename_i hver
        subst hver
        obtain ⟨cur, hcur, hl, hvr⟩ := own_cells R hb hj
        unfold fieldOf at hq
        split at hq
        · rename_i hsz
          obtain ⟨hr, ha⟩ := VR_mkV (VRL_seg hl hvr off i.size hsz) hq
          refine Good.same (v := mkVal (aggD d) ((cur.toList.drop off).take i.size)) ?_ hr
          have hxl : ((cur.toList.drop off).take i.size).length = i.size := by simp; omega
          simp only [execOp, ho, Instr.loadAt, e, Instr.sureAddr, Sem.run_bind, Sem.run_pure, Result.andThen_ok, run_loadVar hd hi (cellsAt_row hcur off i.size) hxl h1]
        · cases hq
      · cases hq
    · cases hq
  · cases hq

theorem run_fieldPlace {t : TypeId} {f : Field} {i : TypeInfo} (hi : P.info? f.type = some i) (h0 : i.size ≠ 0) (w : World) (b o : Nat) : (fieldPlace ⟨b, o, none⟩ f).run P w = .ok ⟨b, o + f.offset, none⟩ w := by
  simp [fieldPlace, sizeOf, typeInfo, hi, h0, Addr.add_lit]

theorem VR_fp_field {cs : List PV} {off sz : Nat} {agg : Bool} {b o : Nat} {xs : List Value} {r : PV} (hF : x.F b) (hcs : cellsAt x.w b o xs) (hv : VRL P x cs xs) (hq : (fieldOf off sz agg cs).map PV.fp = some r) :
    VR P x r (.pointer (some ⟨b, o + off, none⟩)) := by
  simp only [Option.map_eq_some_iff] at hq
  obtain ⟨v, hf, rfl⟩ := hq
  unfold fieldOf at hf
  split at hf
  · rename_i hsz
    have hseg := VRL_take sz (VRL_drop off hv)
    refine ⟨b, o + off, (xs.drop off).take sz, rfl, hF, cellsAt_drop hcs off sz, ?_⟩
    cases agg with
    | true =>
      simp only [mkV, Option.some.injEq] at hf
      subst hf
      simpa [VRC] using hseg
    | false =>
      generalize (cs.drop off).take sz = ds at *
      generalize (xs.drop off).take sz = us at *
      match ds, us, hseg with
      | [c], [u], hseg =>
        simp only [mkV] at hf
        split at hf
        · cases hf
        · simp only [Option.some.injEq] at hf
          subst hf
          simp only [VRL] at hseg
          exact hseg.2.1
      | [], _, _ => simp [mkV] at hf
      | _ :: _ :: _, _, _ => simp [mkV] at hf
      | [_], [], hseg => simp [VRL] at hseg
      | [_], _ :: _ :: _, hseg => simp [VRL] at hseg
  · cases hf

theorem good_faddr {o : Oper} {own : List Tmp} {s : TypeId} {y : Operand} {k : Nat} {ao : AOp} {r : PV} (hT : Temps P x n T a) (ho : o.op = .fieldAddr s y k)
    (hc : compOp P own o.dst o.type (.fieldAddr s y k) = some ao) (hq : opQ P T h ao = some r) : Good P a x o r := by
  simp only [compOp] at hc
  split at hc
  · rename_i fs hs
    simp only [Option.bind_eq_bind, Option.bind_eq_some_iff] at hc
    obtain ⟨f, hf, i, hi, d, hd, hc⟩ := hc
    split at hc
    · cases hc
    rename_i h0
    simp only [Option.pure_def, Option.some.injEq] at hc
    subst hc
    simp only [opQ] at hq
    have hy := hT.ev y
    split at hq
    · rename_i cs hv
      rw [hv] at hy
      simp only [VR, AsVal, PV.isAgg, VRC, List.cons.injEq, and_true] at hy
      obtain ⟨b, off, xs, e, hF, hcs, hr⟩ := hy
      refine Good.same (v := .pointer (some ⟨b, off + f.offset, none⟩)) ?_ (VR_fp_field hF hcs hr hq)
      simp only [execOp, ho, Instr.fieldAt, Sem.run_bind, run_underlying hs, Result.andThen_ok, hf, e, Instr.sureAddr, Sem.run_pure, run_fieldPlace (t := s) hi h0]
    · rename_i id ver off hv
      rw [hv] at hy
      simp only [VR, AsVal, PV.isAgg, VRC, List.cons.injEq, and_true] at hy
      obtain ⟨b, hj, e⟩ := hy
      simp only [Option.some.injEq] at hq
      subst hq
      refine Good.same (v := .pointer (some ⟨b, off + f.offset, none⟩)) ?_ ⟨b, hj, rfl⟩
      simp only [execOp, ho, Instr.fieldAt, Sem.run_bind, run_underlying hs, Result.andThen_ok, hf, e, Instr.sureAddr, Sem.run_pure, run_fieldPlace (t := s) hi h0]
    · cases hq
  · cases hc

theorem good_field {o : Oper} {own : List Tmp} {s : TypeId} {y : Operand} {k : Nat} {ao : AOp} {r : PV} (hT : Temps P x n T a) (ho : o.op = .field s y k)
    (hc : compOp P own o.dst o.type (.field s y k) = some ao) (hq : opQ P T h ao = some r) : Good P a x o r := by
  simp only [compOp] at hc
  split at hc
  · rename_i fs hs
    simp only [Option.bind_eq_bind, Option.bind_eq_some_iff] at hc
    obtain ⟨f, hf, i, hi, d, hd, hc⟩ := hc
    split at hc
    · cases hc
    rename_i hne
    simp only [Option.pure_def, Option.some.injEq] at hc
    subst hc
    have h1 : aggD d = false → i.size = 1 := fun e => by
      by_cases e1 : i.size = 1
      · exact e1
      · exact absurd ⟨e, e1⟩ hne
    simp only [opQ] at hq
    have hy := hT.ev y
    split at hq
    · rename_i cs hv
      rw [hv] at hy
      obtain ⟨us, e, hr⟩ := hy
      simp only [VRC] at hr
      unfold fieldOf at hq
      split at hq
      · rename_i hsz
        have hul := VRL_length hr
        refine Good.same (v := mkVal (aggD d) ((us.drop f.offset).take i.size)) ?_ (VR_mkV (VRL_take i.size (VRL_drop f.offset hr)) hq).1
        simp only [execOp, ho, Instr.field, Sem.run_bind, run_underlying hs, Result.andThen_ok, hf, e, asAgg, Sem.run_pure, run_part hd hi x.w us f.offset (by omega) h1]
      · cases hq
    · cases hq
  · cases hc

theorem ge0_toNat {k : Int} {m : Nat} (h : 0 ≤ k ∧ k < m) : k.toNat < m := by omega

theorem good_iaddr {o : Oper} {own : List Tmp} {t : TypeId} {y z : Operand} {ao : AOp} {r : PV} (hT : Temps P x n T a) (ho : o.op = .indexAddr t y z)
    (hc : compOp P own o.dst o.type (.indexAddr t y z) = some ao) (hq : opQ P T h ao = some r) : Good P a x o r := by
  simp only [compOp] at hc
  have hy := hT.ev y
  have hz := hT.ev z
  split at hc
  · rename_i e ht
    simp only [Option.bind_eq_bind, Option.bind_eq_some_iff] at hc
    obtain ⟨i, hi, hc⟩ := hc
    simp only [Option.pure_def, Option.some.injEq] at hc
    subst hc
    simp only [opQ] at hq
    split at hq
    · rename_i tg es kk k hv hk
      rw [hv] at hy
      rw [hk] at hz
      have hz := sc_eq hz
      simp only [VR, AsVal, PV.isAgg, VRC, List.cons.injEq, and_true] at hy
      obtain ⟨b, off, cap, sz, ey, h1, h2, h3, hr⟩ := hy
      split at hq
      · rename_i hb
        split at hq
        · rename_i el hel
          split at hq
          · rename_i hcn
            simp only [Option.some.injEq] at hq
            subst hq
            obtain ⟨hF, xs, hxl, hcs, hvr⟩ := VRM_get _ hr hel
            have hsz : sz = i.size := by rw [← hxl]; exact cnt_length hvr hcn
            subst hsz
            refine Good.same (v := .pointer (some ⟨b, off + k.toNat * i.size, none⟩)) ?_ ⟨b, _, xs, rfl, hF, hcs, hvr⟩
            simp only [execOp, ho, Instr.indexAt, Sem.run_bind, ey, hz, asIntOf, Sem.run_pure, Result.andThen_ok, run_underlying ht, hb, and_self, if_true, sizeOf, typeInfo, run_program, hi, Addr.add_lit]
          · cases hq
        · cases hq
      · cases hq
    · rename_i id ver off m kk k hv hk
      rw [hv] at hy
      rw [hk] at hz
      have hz := sc_eq hz
      simp only [VR, AsVal, PV.isAgg, VRC, List.cons.injEq, and_true] at hy
      obtain ⟨b, cap, hj, ey, h1, h2, h3⟩ := hy
      split at hq
      · rename_i hb
        simp only [Option.some.injEq] at hq
        subst hq
        refine Good.same (v := .pointer (some ⟨b, off + k.toNat * i.size, none⟩)) ?_ ⟨b, hj, rfl⟩
        simp only [execOp, ho, Instr.indexAt, Sem.run_bind, ey, hz, asIntOf, Sem.run_pure, Result.andThen_ok, run_underlying ht, hb, and_self, if_true, sizeOf, typeInfo, run_program, hi, Addr.add_lit]
      · cases hq
    · cases hq
  · rename_i len e ht
    simp only [Option.bind_eq_bind, Option.bind_eq_some_iff] at hc
    obtain ⟨i, hi, d, hd, hc⟩ := hc
    simp only [Option.pure_def, Option.some.injEq] at hc
    subst hc
    simp only [opQ] at hq
    split at hq
    · rename_i cs kk k hv hk
      rw [hv] at hy
      rw [hk] at hz
      have hz := sc_eq hz
      simp only [VR, AsVal, PV.isAgg, VRC, List.cons.injEq, and_true] at hy
      obtain ⟨b, off, xs, ey, hF, hcs, hr⟩ := hy
      split at hq
      · rename_i hb
        refine Good.same (v := .pointer (some ⟨b, off + k.toNat * i.size, none⟩)) ?_ (VR_fp_field hF hcs hr hq)
        simp only [execOp, ho, Instr.indexAt, Sem.run_bind, ey, hz, asIntOf, Instr.sureAddr, Sem.run_pure, Result.andThen_ok, run_underlying ht, hb, and_self, if_true, sizeOf, typeInfo, run_program, hi, Addr.add_lit]
      · cases hq
    · rename_i id ver off kk k hv hk
      rw [hv] at hy
      rw [hk] at hz
      have hz := sc_eq hz
      simp only [VR, AsVal, PV.isAgg, VRC, List.cons.injEq, and_true] at hy
      obtain ⟨b, hj, ey⟩ := hy
      split at hq
      · rename_i hb
        simp only [Option.some.injEq] at hq
        subst hq
        refine Good.same (v := .pointer (some ⟨b, off + k.toNat * i.size, none⟩)) ?_ ⟨b, hj, rfl⟩
        simp only [execOp, ho, Instr.indexAt, Sem.run_bind, ey, hz, asIntOf, Instr.sureAddr, Sem.run_pure, Result.andThen_ok, run_underlying ht, hb, and_self, if_true, sizeOf, typeInfo, run_program, hi, Addr.add_lit]
      · cases hq
    · cases hq
  · cases hc

end
end Go.Pb
