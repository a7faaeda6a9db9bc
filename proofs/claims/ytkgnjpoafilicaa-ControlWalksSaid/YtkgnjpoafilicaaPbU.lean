/-
  Plain library, part 16b: regions of open order in which all that turns or makes memory, and every call, stands in one row; the rest only computes.
-/
import Derived.Test.YtkgnjpoafilicaaPbAnyC
set_option linter.unusedVariables false
set_option linter.unusedSimpArgs false
namespace Go.Pb
open Go Go.RowKit

def AOper.barU (o : AOper) : Bool := o.op.kind != 0
def needsU (x y : AOper) : Bool :=
  (x.barU && !y.hf) || (y.barU && !x.hf) || (match x.dst with | some d => y.looks.contains d || y.dst == some d | none => false) || (match y.dst with | some d => x.looks.contains d | none => false)
def chkU (ops : Array Oper) (al : List AOper) : Bool :=
  let B := befs [] ops.toList
  ((List.range ops.size).all fun j => ((ops[j]?).map fun o => o.after.toList.all fun e => !Region.binds .any e || decide (e.on < j)).getD true) &&
  (al.zipIdx.all fun q => (al.zipIdx.take q.2).all fun p => !needsU p.1 q.1 || (B.getD q.2 0).testBit p.2) && (al.all fun o => o.guard.isNone && !(o.barU && o.hf))
/-- What only computes, and waits for some operation that turns memory neither way. -/
def lateU (ops : Array Oper) (al : List AOper) : List Nat :=
  let B := befs [] ops.toList
  (al.zipIdx.filter fun p => !p.1.barU && al.zipIdx.any fun q => q.1.barU && (if p.2 < q.2 then !(B.getD q.2 0).testBit p.2 else !(B.getD p.2 0).testBit q.2)).map (·.2)

section
variable {P : Program} {own : List Tmp} {n : Nat} {w0 : World} {F0 : Nat → Prop} {x0 : Cx}
theorem chkU_needs {ops : Array Oper} {al : List AOper} (h : chkU ops al = true) {i j : Nat} {x y : AOper} (hi : al[i]? = some x) (hj : al[j]? = some y) (hij : i < j) (hn : needsU x y = true) :
    ((befs [] ops.toList).getD j 0).testBit i = true := by
  simp only [chkU, Bool.and_eq_true] at h
  have h2 := h.1.2
  rw [List.all_eq_true] at h2
  have hy := h2 (y, j) (by rw [List.mem_zipIdx_iff_getElem?]; simpa using hj)
  simp only [List.all_eq_true] at hy
  have hx := hy (x, i) (by
    rw [List.mem_take_iff_getElem]
    have hlt : i < al.length := (List.getElem?_eq_some_iff.1 hi).1
    have hltj : j < al.length := (List.getElem?_eq_some_iff.1 hj).1
    refine ⟨i, by simp; omega, ?_⟩
    have := (List.getElem?_eq_some_iff.1 hi).2
    simp [this])
  simpa [hn] using hx
theorem chkU_edges {ops : Array Oper} {al : List AOper} (h : chkU ops al = true) {j : Nat} {o : Oper} (hj : ops[j]? = some o) : ∀ e ∈ o.after.toList, Region.binds .any e = true → e.on < j := by
  simp only [chkU, Bool.and_eq_true] at h
  have h1 := h.1.1
  rw [List.all_eq_true] at h1
  have := h1 j (List.mem_range.2 (Array.getElem?_eq_some_iff.1 hj).1)
  simp only [hj, Option.map_some, Option.getD_some, List.all_eq_true] at this
  intro e he hb
  have := this e he
  simpa [hb] using this
theorem chkU_op {ops : Array Oper} {al : List AOper} (h : chkU ops al = true) {o : AOper} (ho : o ∈ al) : o.guard = none ∧ (o.barU = true → o.hf = false) := by
  simp only [chkU, Bool.and_eq_true] at h
  have h2 := h.2
  rw [List.all_eq_true] at h2
  have := h2 o ho
  simp only [Bool.and_eq_true, Option.isNone_iff_eq_none, Bool.not_eq_true', Bool.and_eq_false_iff] at this
  exact ⟨this.1, fun hb => by rcases this.2 with h | h; · rw [hb] at h; cases h
                              · exact h⟩

/-! What it must meet: in the order of the text -/
def wpU (P : Program) : List AOper → (Nat → PV) → Heap → ((Nat → PV) → Heap → Prop) → Prop
  | [], T, h, K => K T h
  | o :: r, T, h, K => OpS P o.op o.hf T h fun v h2 => wpU P r (updO T o.dst v) h2 K
def StepU (P : Program) (o : AOper) (T : Nat → PV) (h : Heap) (r : PV) (h' : Heap) : Prop := OpS P o.op o.hf T h fun v k => v = r ∧ k = h'
theorem OpD_oneU {o : AOp} {hf : Bool} {T : Nat → PV} {h : Heap} {K : PV → Heap → Prop} (H : OpD P o hf T h K) : ∃ v h', K v h' ∧ ∀ K' : PV → Heap → Prop, K' v h' → OpD P o hf T h K' := by
  unfold OpD at H
  split at H
  · rename_i hk
    obtain ⟨r, h1, h2⟩ := H
    exact ⟨r, h, h2, fun K' hK => by unfold OpD; rw [hk]; exact ⟨r, h1, hK⟩⟩
  · rename_i hk
    obtain ⟨r, h', h1, h2⟩ := H
    exact ⟨r, h', h2, fun K' hK => by unfold OpD; rw [hk]; exact ⟨r, h', h1, hK⟩⟩
  · rename_i hk
    split at H
    · obtain ⟨g, az0, h1, r, h2, h3⟩ := H
      exact ⟨r, h, h3, fun K' hK => by unfold OpD; rw [hk]; exact ⟨g, az0, h1, r, h2, hK⟩⟩
    · exact H.elim
  · exact H.elim
theorem OpS_oneU {o : AOp} {hf : Bool} {T : Nat → PV} {h : Heap} {K : PV → Heap → Prop} (H : OpS P o hf T h K) : ∃ v h', K v h' ∧ ∀ K' : PV → Heap → Prop, K' v h' → OpS P o hf T h K' := by
  rcases H with H | ⟨f, args, g, az0, r, h', e, hc, hF, hk⟩ | ⟨g, az0, r, h', hI, hF, hk⟩
  · obtain ⟨v, h', h1, h2⟩ := OpD_oneU H
    exact ⟨v, h', h1, fun K' hK => .inl (h2 K' hK)⟩
  · exact ⟨r, h', hk, fun K' hK => .inr (.inl ⟨f, args, g, az0, r, h', e, hc, hF, hK⟩)⟩
  · exact ⟨r, h', hk, fun K' hK => .inr (.inr ⟨g, az0, r, h', hI, hF, hK⟩)⟩
theorem hOf_shift (s : Stp) (ss : List Stp) (h0 : Heap) : ∀ k, k ≤ ss.length → hOf h0 (s :: ss) (k + 1) = hOf s.h ss k
  | 0, _ => by simp [hOf]
  | k + 1, hk => by
    simp only [hOf, List.getElem?_cons_succ]
    rw [List.getElem?_eq_getElem (by omega)]
    rfl
theorem runU : ∀ (al : List AOper) (T : Nat → PV) (h : Heap) (K : (Nat → PV) → Heap → Prop), wpU P al T h K → ∃ ss : List Stp, ss.length = al.length ∧
    (∀ k o, al[k]? = some o → StepU P o (TT al ss allD T k) (hOf h ss k) (resOf ss k) (hOf h ss (k + 1))) ∧ K (TT al ss allD T al.length) (hOf h ss al.length)
  | [], T, h, K, H => ⟨[], rfl, fun k o hk => by simp at hk, H⟩
  | o :: al, T, h, K, H => by
    obtain ⟨v, h', h1, h2⟩ := OpS_oneU H
    obtain ⟨ss, e1, e2, e3⟩ := runU al _ _ _ h1
    refine ⟨⟨v, h'⟩ :: ss, by simp [e1], fun k o' hk => ?_, ?_⟩
    · cases k with
      | zero =>
        simp only [List.getElem?_cons_zero, Option.some.injEq] at hk
        subst hk
        exact h2 _ ⟨rfl, rfl⟩
      | succ k =>
        have hk' : al[k]? = some o' := by simpa using hk
        have hlt : k < al.length := (List.getElem?_eq_some_iff.1 hk').1
        rw [TT_shift, hOf_shift _ _ _ _ (by omega), hOf_shift _ _ _ _ (by omega)]
        have : resOf (⟨v, h'⟩ :: ss) (k + 1) = resOf ss k := by simp [resOf]
        rw [this]
        exact e2 k o' hk'
    · simp only [List.length_cons]
      rw [TT_shift, hOf_shift _ _ _ _ (by omega)]
      exact e3
theorem OpS_congr {o : AOper} {hf : Bool} {T T' : Nat → PV} {h : Heap} {K : PV → Heap → Prop} (he : ∀ t ∈ o.looks, T t = T' t) (H : OpS P o.op hf T h K) : OpS P o.op hf T' h K := by
  have ho := opers_congr (T := T) (T' := T') he
  rcases H with H | ⟨f, args, g, az0, r, h', e, hc, hF, hk⟩ | ⟨g, az0, r, h', ⟨xo, name, args, t, v, e, hx, hm, ea⟩, hF, hk⟩
  · left
    unfold OpD at H ⊢
    split at H
    · rename_i hk
      obtain ⟨r, h1, h2⟩ := H
      exact ⟨r, by rw [← opQ_congr ho]; exact h1, h2⟩
    · rename_i hk
      obtain ⟨r, h', h1, h2⟩ := H
      exact ⟨r, h', by rw [← opL_congr ho]; exact h1, h2⟩
    · rename_i hk
      split at H
      · rename_i f args hop
        rw [hop] at ho
        obtain ⟨g, az0, h1, h2⟩ := H
        refine ⟨g, az0, ?_, h2⟩
        rw [← ho f (by simp [AOp.opers]), ← map_ev_congr (T := T) fun z hz => ho z (by simp [AOp.opers, hz])]
        exact h1
      · exact H.elim
    · exact H.elim
  · right; left
    rw [e] at ho
    refine ⟨f, args, g, az0, r, h', e, ?_, hF, hk⟩
    rw [← ho f (by simp [AOp.opers]), ← map_ev_congr (T := T) fun z hz => ho z (by simp [AOp.opers, hz])]
    exact hc
  · right; right
    rw [e] at ho
    refine ⟨g, az0, r, h', ⟨xo, name, args, t, v, e, ?_, hm, ?_⟩, hF, hk⟩
    · rw [← ho xo (by simp [AOp.opers])]; exact hx
    · rw [← map_ev_congr (T := T) fun z hz => ho z (by simp [AOp.opers, hz])]; exact ea

variable {ops : Array Oper} {al : List AOper} {ss : List Stp} {T0 : Nat → PV} {h0 : Heap}
structure TextU (P : Program) (own : List Tmp) (n : Nat) (ops : Array Oper) (al : List AOper) (ss : List Stp) (T0 : Nat → PV) (h0 : Heap) : Prop where
  comp : ∃ hfs, compOps P own n ops hfs 0 ops.toList = some al
  chk : chkU ops al = true
  run : ∀ k o, al[k]? = some o → StepU P o (TT al ss allD T0 k) (hOf h0 ss k) (resOf ss k) (hOf h0 ss (k + 1))
theorem TextU.len (X : TextU P own n ops al ss T0 h0) : al.length = ops.size := by
  obtain ⟨hfs, hc⟩ := X.comp
  have := (compOps_get hc).1
  simpa using this
theorem TextU.get (X : TextU P own n ops al ss T0 h0) {k : Nat} {o : Oper} (hk : ops[k]? = some o) : ∃ ao hf, al[k]? = some ao ∧ compO P own n ops hf o = some ao := by
  obtain ⟨hfs, hc⟩ := X.comp
  exact (compOps_get hc).2 k o (by simpa using hk)
def isBarU (al : List AOper) (k : Nat) : Bool := ((al[k]?).map (·.barU)).getD false
/-- What only computes leaves memory az0 it is. -/
theorem quiet_step {o : AOper} {T : Nat → PV} {h : Heap} {r : PV} {h' : Heap} (hb : o.barU = false) (H : StepU P o T h r h') : h' = h ∧ opQ P T (seen o.hf h) o.op = some r := by
  have hk : o.op.kind = 0 := by simpa [AOper.barU] using hb
  rcases H with H | ⟨f, args, g, az0, r', h2, e, _⟩ | ⟨g, az0, r', h2, ⟨xo, name, args, t, v, e, _⟩, _⟩
  · unfold OpD at H
    rw [hk] at H
    obtain ⟨r', h1, rfl, rfl⟩ := H
    exact ⟨rfl, h1⟩
  · rw [e] at hk
    cases hk
  · rw [e] at hk
    cases hk
theorem TextU.same (X : TextU P own n ops al ss T0 h0) : ∀ {j k : Nat}, j ≤ k → k ≤ al.length → (∀ m, j ≤ m → m < k → isBarU al m = false) → hOf h0 ss k = hOf h0 ss j := by
  intro j k hjk
  induction k with
  | zero => intro _ _; have : j = 0 := by omega
            subst this; rfl
  | succ k ih =>
    intro hk hb
    by_cases e : j = k + 1
    · subst e; rfl
    · have h1 := ih (by omega) (by omega) fun m hm hm' => hb m hm (by omega)
      have hget := List.getElem?_eq_getElem (show k < al.length by omega)
      have hnb : (al[k]'(by omega)).barU = false := by
        have := hb k (by omega) (by omega)
        simpa [isBarU, hget] using this
      rw [(quiet_step hnb (X.run k _ hget)).1, h1]
structure MidU (P : Program) (n : Nat) (ops : Array Oper) (al : List AOper) (ss : List Stp) (T0 : Nat → PV) (h0 : Heap) (w0 : World) (F0 : Nat → Prop) (x0 : Cx) (listed : Array Bool) (e : Nat) (a : Act) (y : Cx) : Prop where
  size : listed.size = ops.size
  down : ∀ (j : Nat) o, listed.getD j false = true → ops[j]? = some o → ∀ ed ∈ o.after, Region.binds .any ed = true → listed.getD ed.on false = true
  le : e ≤ al.length
  bar : e < al.length → isBarU al e = true
  lo : ∀ j, j < e → isBarU al j = true → listed.getD j false = true
  hi : ∀ j, e ≤ j → isBarU al j = true → listed.getD j false = false
  rel : RelP P w0 F0 (hOf h0 ss e) y
  tmp : Temps P y n (TT al ss (fun j => listed.getD j false) T0 al.length) a
  ext : Ext x0 y
theorem listed_beforeU {listed : Array Bool} (down : ∀ (j : Nat) o, listed.getD j false = true → ops[j]? = some o → ∀ ed ∈ o.after, Region.binds .any ed = true → listed.getD ed.on false = true)
    {j : Nat} (hj : listed.getD j false = true) {i : Nat} (hb : ((befs [] ops.toList).getD j 0).testBit i = true) : listed.getD i false = true :=
  befs_spec (D := fun k => listed.getD k false) ops.toList [] (by simp) (fun k o hk hD ed hed hbind => down k o (by simpa using hD) (by simpa using hk) ed (by simpa using hed) hbind) j hj i hb
theorem ready_beforeU {listed : Array Bool} (down : ∀ (j : Nat) o, listed.getD j false = true → ops[j]? = some o → ∀ ed ∈ o.after, Region.binds .any ed = true → listed.getD ed.on false = true)
    {i : Nat} {o : Oper} (hi : i < listed.size) (ho : ops[i]? = some o) (hall : ∀ ed ∈ o.after, Region.binds .any ed = true → listed.getD ed.on false = true) {j : Nat} (hji : j ≠ i)
    (hb : ((befs [] ops.toList).getD i 0).testBit j = true) : listed.getD j false = true := by
  have hset := getD_set (listed := listed) hi
  have := befs_spec (D := fun k => (listed.setIfInBounds i true).getD k false) ops.toList [] (by simp) (fun k o' hk hD ed hed hbind => by
    simp only [hset] at hD ⊢
    simp only [List.length_nil, Nat.zero_add, Bool.or_eq_true] at hD
    rcases hD with hD | hD
    · rw [down k o' hD (by simpa using hk) ed (by simpa using hed) hbind]; rfl
    · have hki : k = i := by simpa using hD
      subst hki
      have : o' = o := by
        have h1 : ops[k]? = some o' := by simpa using hk
        rw [ho] at h1
        simpa using h1.symm
      subst this
      rw [hall ed (by simpa using hed) hbind]; rfl) i (by simp only [hset]; simp) j hb
  simp only [hset] at this
  rw [show (j == i) = false by simpa using hji, Bool.or_false] at this
  exact this
theorem nU_left {x y : AOper} {t : Tmp} (hd : x.dst = some t) (hl : t ∈ y.looks) : needsU x y = true := by
  have : y.looks.contains t = true := by simpa using hl
  simp only [needsU, hd, this, Bool.true_or, Bool.or_true]
theorem nU_right {x y : AOper} {t : Tmp} (hd : y.dst = some t) (hl : t ∈ x.looks) : needsU x y = true := by
  have : x.looks.contains t = true := by simpa using hl
  simp only [needsU, hd, this, Bool.or_true]
theorem nU_same {x y : AOper} {t : Tmp} (hd : x.dst = some t) (he : y.dst = some t) : needsU x y = true := by
  simp only [needsU, hd, he, beq_self_eq_true, Bool.or_true, Bool.true_or]
theorem nU_bar {x y : AOper} (hx : x.barU = true) (hy : y.hf = false) : needsU x y = true := by simp [needsU, hx, hy]
theorem nU_bar' {x y : AOper} (hy : y.barU = true) (hx : x.hf = false) : needsU x y = true := by simp [needsU, hx, hy]
theorem next_barU (al : List AOper) : ∀ (m k : Nat), k + m = al.length → ∃ e, k ≤ e ∧ e ≤ al.length ∧ (e < al.length → isBarU al e = true) ∧ ∀ j, k ≤ j → j < e → isBarU al j = false
  | 0, k, hk => ⟨k, Nat.le_refl _, by omega, fun h => by omega, fun j h1 h2 => by omega⟩
  | m + 1, k, hk => by
    cases hb : isBarU al k with
    | true => exact ⟨k, Nat.le_refl _, by omega, fun _ => hb, fun j h1 h2 => by omega⟩
    | false =>
      obtain ⟨e, h1, h2, h3, h4⟩ := next_barU al m (k + 1) (by omega)
      refine ⟨e, by omega, h2, h3, fun j h5 h6 => ?_⟩
      by_cases hj : j = k
      · rw [hj]; exact hb
      · exact h4 j (by omega) h6
theorem MidU.step (X : TextU P own n ops al ss T0 h0) {listed : Array Bool} {e : Nat} {a : Act} {y : Cx} (M : MidU P n ops al ss T0 h0 w0 F0 x0 listed e a y) {i : Nat} (hi : i ∈ Region.ready .any ops listed) {Q : Exit → Act → World → Prop} :
    wpOp P ops Q i (fun a' w' => ∃ e' y', y'.w = w' ∧ MidU P n ops al ss T0 h0 w0 F0 x0 (listed.setIfInBounds i true) e' a' y') a y.w := by
  obtain ⟨hun, o, ho, hall⟩ := mem_ready.1 hi
  have hisz : i < listed.size := by rw [M.size]; exact (Array.getElem?_eq_some_iff.1 ho).1
  have hil : i < al.length := by rw [X.len, ← M.size]; exact hisz
  have hnot : listed.getD i false = false := by
    have : listed.getD i true = listed.getD i false := by simp [Array.getD_eq_getD_getElem?, hisz]
    rw [← this]; exact hun
  obtain ⟨ao, hfl, hao, hco⟩ := X.get ho
  obtain ⟨hdst, hcop, hdn, hgd⟩ := compO_spec hco
  obtain ⟨hgn, hbf⟩ := chkU_op X.chk (List.mem_of_getElem? hao)
  have hstep := X.run i ao hao
  have hset := getD_set hisz
  have before : ∀ j bo, al[j]? = some bo → j < i → needsU bo ao = true → listed.getD j false = true := fun j bo hj hji hn =>
    ready_beforeU M.down hisz ho hall (by omega) (chkU_needs X.chk hj hao hji hn)
  have behind : ∀ j bo, al[j]? = some bo → i < j → needsU ao bo = true → listed.getD j false = false := fun j bo hj hij hn => by
    cases hl : listed.getD j false with
    | false => rfl
    | true =>
      have := listed_beforeU M.down hl (chkU_needs X.chk hao hj hij hn)
      rw [hnot] at this; cases this
  have hdstOf : ∀ j t, dstOf al j = some t → ∃ bo, al[j]? = some bo ∧ bo.dst = some t := by
    intro j t h
    simp only [dstOf, Option.bind_eq_some_iff] at h
    exact h
  have hlooks : ∀ t ∈ ao.looks, TT al ss allD T0 i t = TT al ss (fun j => listed.getD j false) T0 al.length t := by
    intro t ht
    refine (TT_at (fun j hj hd => ?_) (fun j hj hd => ?_) al.length (by omega)).symm
    · obtain ⟨bo, hb, hbd⟩ := hdstOf j t hd
      exact before j bo hb hj (nU_left hbd ht)
    · obtain ⟨bo, hb, hbd⟩ := hdstOf j t hd
      by_cases hji : j = i
      · subst hji; exact hnot
      · exact behind j bo hb (by omega) (nU_right hbd ht)
  have hput : TT al ss (fun j => (listed.setIfInBounds i true).getD j false) T0 al.length = updO (TT al ss (fun j => listed.getD j false) T0 al.length) o.dst (resOf ss i) := by
    have hdi : dstOf al i = o.dst := by simp only [dstOf, hao, Option.bind_some, hdst]
    rw [← hdi]
    refine TT_put (D := fun j => listed.getD j false) hil hnot (fun j => by rw [hset]) (fun j t hij hDj hdi' hdj => ?_)
    obtain ⟨bo, hb, hbd⟩ := hdstOf j t hdj
    have h1 := behind j bo hb hij (nU_same (by rw [← hdi', hdi, hdst]) hbd)
    rw [h1] at hDj; cases hDj
  have down' : ∀ (j : Nat) o', (listed.setIfInBounds i true).getD j false = true → ops[j]? = some o' → ∀ ed ∈ o'.after, Region.binds .any ed = true → (listed.setIfInBounds i true).getD ed.on false = true := by
    intro j o' hj ho' ed hed hb
    rw [hset] at hj ⊢
    simp only [Bool.or_eq_true] at hj
    rcases hj with hj | hj
    · rw [M.down j o' hj ho' ed hed hb]; rfl
    · have : j = i := by simpa using hj
      subst this
      rw [ho] at ho'
      simp only [Option.some.injEq] at ho'
      subst ho'
      rw [hall ed hed hb]; rfl
  unfold wpOp
  rw [ho]
  have hwant : Region.wanted o (yielded ops a.tmps) = true := by
    rcases hgd with ⟨h1, _⟩ | ⟨j, want, oj, d, _, _, _, _, h5⟩
    · simp [Region.wanted, h1]
    · rw [hgn] at h5; cases h5
  simp only [hwant, if_true]
  left
  cases hbar : ao.barU with
  | true =>
    have hff := hbf hbar
    have hisb : isBarU al i = true := by simp [isBarU, hao, hbar]
    have hie : i = e := by
      rcases Nat.lt_trichotomy i e with h | h | h
      · have := M.lo i h hisb; rw [hnot] at this; cases this
      · exact h
      · have hel : e < al.length := by omega
        have hget := List.getElem?_eq_getElem hel
        have hb := M.bar hel
        have hb' : (al[e]'hel).barU = true := by simpa only [isBarU, hget, Option.map_some, Option.getD_some] using hb
        have := before e _ hget h (nU_bar hb' hff)
        rw [M.hi e (Nat.le_refl _) hb] at this; cases this
    subst hie
    obtain ⟨e', he1, he2, he3, he4⟩ := next_barU al (al.length - (i + 1)) (i + 1) (by omega)
    have hS : OpS P ao.op ao.hf (TT al ss (fun j => listed.getD j false) T0 al.length) (hOf h0 ss i) fun v k => v = resOf ss i ∧ k = hOf h0 ss (i + 1) := OpS_congr hlooks hstep
    refine Oper.wp_mono (fun a' w' hh => ?_) (OpS_sound M.rel M.tmp hcop hS (Q := Q))
    obtain ⟨r, h', ⟨rfl, rfl⟩, v, z, rfl, rfl, R', E, hv⟩ := hh
    refine ⟨e', z, rfl, by simp [M.size], down', he2, he3, fun j hj hb => ?_, fun j hj hb => ?_, ?_, ?_, M.ext.trans E⟩
    · rw [hset]
      by_cases hji : j = i
      · subst hji; simp
      · by_cases hlt : j < i
        · rw [M.lo j hlt hb]; rfl
        · have := he4 j (by omega) hj; rw [hb] at this; cases this
    · rw [hset, M.hi j (by omega) hb]
      simp; omega
    · rw [X.same he1 he2 he4]; exact R'
    · rw [hput]
      exact (M.tmp.ext E).put (d := o.dst) hdn hv
  | false =>
    obtain ⟨_, hq⟩ := quiet_step hbar hstep
    have hq' : opQ P (TT al ss (fun j => listed.getD j false) T0 al.length) (seen ao.hf (hOf h0 ss i)) ao.op = some (resOf ss i) := by
      rw [← opQ_congr (T := TT al ss allD T0 i) (opers_congr hlooks)]; exact hq
    have hq2 : opQ P (TT al ss (fun j => listed.getD j false) T0 al.length) (hOf h0 ss e) ao.op = some (resOf ss i) := by
      cases hhf : ao.hf with
      | true =>
        rw [hhf] at hq'
        exact opQ_mono (h := ⟨0, []⟩) (fun id b hb => by simp at hb) hq'
      | false =>
        rw [hhf] at hq'
        have hnb : isBarU al i = false := by simp [isBarU, hao, hbar]
        have key : hOf h0 ss e = hOf h0 ss i := by
          rcases Nat.le_total i e with h | h
          · refine X.same h M.le fun m h1 h2 => ?_
            cases hb : isBarU al m with
            | false => rfl
            | true =>
              exfalso
              have hml : m < al.length := by have := M.le; omega
              have hget := List.getElem?_eq_getElem hml
              have hb' : (al[m]'hml).barU = true := by simpa only [isBarU, hget, Option.map_some, Option.getD_some] using hb
              have hmi : i < m := by
                rcases Nat.lt_or_ge i m with h3 | h3
                · exact h3
                · have : m = i := by omega
                  subst this; rw [hnb] at hb; cases hb
              have h4 := M.lo m h2 hb
              rw [behind m _ hget hmi (nU_bar' hb' hhf)] at h4
              cases h4
          · refine (X.same h (by omega) fun m h1 h2 => ?_).symm
            cases hb : isBarU al m with
            | false => rfl
            | true =>
              exfalso
              have hml : m < al.length := by omega
              have hget := List.getElem?_eq_getElem hml
              have hb' : (al[m]'hml).barU = true := by simpa only [isBarU, hget, Option.map_some, Option.getD_some] using hb
              have h4 := before m _ hget h2 (nU_bar hb' hhf)
              rw [M.hi m h1 hb] at h4
              cases h4
        rw [key]
        exact hq'
    obtain ⟨v, z, hr, gr, hv⟩ := opQ_sound M.rel M.tmp hcop hq2
    refine wp_of_run hr (.inl rfl) ⟨e, z, rfl, by simp [M.size], down', M.le, M.bar, fun j hj hb => ?_, fun j hj hb => ?_, M.rel.grow gr, ?_, M.ext.trans (M.rel.ext_of_grow gr)⟩
    · rw [hset, M.lo j hj hb]; rfl
    · rw [hset, M.hi j hj hb]
      have : j ≠ i := fun e => by subst e; simp [isBarU, hao, hbar] at hb
      simpa using this
    · rw [hput]
      exact (M.tmp.ext (M.rel.ext_of_grow gr)).put (d := o.dst) hdn hv
theorem all_listedU (X : TextU P own n ops al ss T0 h0) {listed : Array Bool} (hsz : listed.size = ops.size) (hr : Region.ready .any ops listed = []) : ∀ j, j < ops.size → listed.getD j false = true := by
  intro j
  induction j using Nat.strongRecOn with
  | _ j ih =>
    intro hj
    cases hl : listed.getD j false with
    | true => rfl
    | false =>
      have ho := Array.getElem?_eq_getElem hj
      have : j ∈ Region.ready .any ops listed := by
        refine mem_ready.2 ⟨by rw [show listed.getD j true = listed.getD j false by simp [Array.getD_eq_getD_getElem?, hsz, hj]]; exact hl, _, ho, fun ed hed hb => ?_⟩
        have hlt := chkU_edges X.chk ho ed (by simpa using hed) hb
        exact ih ed.on hlt (by omega)
      rw [hr] at this
      cases this
theorem MidU.any (X : TextU P own n ops al ss T0 h0) {Q : Exit → Act → World → Prop}
    (hQ : ∀ a y, RelP P w0 F0 (hOf h0 ss al.length) y → Ext x0 y → Temps P y n (TT al ss allD T0 al.length) a → Q .normal a y.w) :
    ∀ (fuel : Nat) (listed : Array Bool) (e : Nat) (a : Act) (y : Cx), MidU P n ops al ss T0 h0 w0 F0 x0 listed e a y → (leftOver ops.size listed).length ≤ fuel → wpAny P .any ops Q fuel listed a y.w := by
  have done : ∀ (listed : Array Bool) (e : Nat) (a : Act) (y : Cx), MidU P n ops al ss T0 h0 w0 F0 x0 listed e a y → (∀ j, j < ops.size → listed.getD j false = true) → Q .normal a y.w := by
    intro listed e a y M hall
    have hlen := X.len
    have he : e = al.length := by
      rcases Nat.lt_or_ge e al.length with h | h
      · have := M.hi e (Nat.le_refl _) (M.bar h); rw [hall e (by omega)] at this; cases this
      · have := M.le; omega
    subst he
    refine hQ a y M.rel M.ext ?_
    rw [← TT_all (D := fun j => listed.getD j false) (Nat.le_refl _) (fun j hj => hall j (by omega)) fun j h1 h2 => by omega]
    exact M.tmp
  intro fuel
  induction fuel with
  | zero =>
    intro listed e a y M hf
    have hnil : leftOver ops.size listed = [] := List.eq_nil_of_length_eq_zero (by omega)
    have hall : ∀ j, j < ops.size → listed.getD j false = true := by
      intro j hj
      cases hl : listed.getD j false with
      | true => rfl
      | false =>
        have : j ∈ leftOver ops.size listed := by simp only [leftOver, List.mem_filter, List.mem_range]; exact ⟨hj, by simp [hl]⟩
        rw [hnil] at this
        cases this
    refine ⟨?_, done listed e a y M hall⟩
    cases hr : Region.ready .any ops listed with
    | nil => rfl
    | cons i r =>
      have hi : i ∈ Region.ready .any ops listed := by rw [hr]; exact List.mem_cons_self ..
      obtain ⟨hun, o, ho, _⟩ := mem_ready.1 hi
      have hlt := (Array.getElem?_eq_some_iff.1 ho).1
      have := hall i hlt
      rw [show listed.getD i true = listed.getD i false by simp [Array.getD_eq_getD_getElem?, M.size, hlt], this] at hun
      cases hun
  | succ fuel ih =>
    intro listed e a y M hf
    refine ⟨fun hr => done listed e a y M (all_listedU X M.size hr), fun i hi => ?_⟩
    refine wpOp_mono (fun a' w' hh => ?_) (M.step X hi)
    obtain ⟨e', y', rfl, M'⟩ := hh
    refine ih _ e' a' y' M' ?_
    obtain ⟨hun, o, ho, _⟩ := mem_ready.1 hi
    have hlt := (Array.getElem?_eq_some_iff.1 ho).1
    have hisz : i < listed.size := by rw [M.size]; exact hlt
    have hnot : listed.getD i false = false := by
      rw [← show listed.getD i true = listed.getD i false by simp [Array.getD_eq_getD_getElem?, hisz]]; exact hun
    have := filter_lt (p := fun j => !listed.getD j false) (q := fun j => !(listed.setIfInBounds i true).getD j false) (i := i) (List.range ops.size)
      (fun j _ hj => by rw [getD_set hisz] at hj; cases h : listed.getD j false with | true => rw [h] at hj; cases hj | false => rfl)
      (List.mem_range.2 hlt) (by rw [hnot]; rfl) (by rw [getD_set hisz]; simp)
    unfold leftOver at hf ⊢
    omega
theorem anyU {hfs : List Nat} {Q : Exit → Act → World → Prop} {K : (Nat → PV) → Heap → Prop} {T : Nat → PV} {h : Heap} {x : Cx} {a : Act} (hc : compOps P own n ops hfs 0 ops.toList = some al) (hchk : chkU ops al = true) (hw : wpU P al T h K) (R : RelP P w0 F0 h x) (hT : Temps P x n T a)
    (hQ : ∀ T' h' y a', K T' h' → RelP P w0 F0 h' y → Ext x y → Temps P y n T' a' → Q .normal a' y.w) : wpAny P .any ops Q ops.size (Array.replicate ops.size false) a { x.w with drawn := x.w.drawn + 1 } := by
  obtain ⟨ss, e1, e2, e3⟩ := runU al T h K hw
  have X : TextU P own n ops al ss T h := ⟨⟨hfs, hc⟩, hchk, e2⟩
  obtain ⟨e, he1, he2, he3, he4⟩ := next_barU al al.length 0 (by omega)
  have gd := Grow.drew x
  have Rd := R.grow gd
  have Ed := R.ext_of_grow gd
  have hrep : ∀ j, (Array.replicate ops.size false).getD j false = false := fun j => by
    simp only [Array.getD_eq_getD_getElem?, Array.getElem?_replicate]
    split <;> rfl
  have M : MidU P n ops al ss T h w0 F0 x (Array.replicate ops.size false) e a ⟨x.w.drew, x.F, x.J⟩ := by
    refine ⟨by simp, (fun j o hj => absurd hj (by rw [hrep]; simp)), he2, he3, fun j hj hb => ?_, fun j _ _ => hrep j, ?_, ?_, Ed⟩
    · have := he4 j (Nat.zero_le _) hj; rw [hb] at this; cases this
    · rw [X.same (j := 0) (Nat.zero_le _) he2 he4]; exact Rd
    · rw [TT_all (e := 0) (Nat.zero_le _) (fun j hj => by omega) fun j _ _ => hrep j]
      exact hT.ext Ed
  refine MidU.any X (fun a y R' E' hT' => hQ _ _ y a e3 R' E' hT') ops.size _ e a _ M ?_
  unfold leftOver
  exact Nat.le_trans (List.length_filter_le _ _) (by simp)
end
end Go.Pb
