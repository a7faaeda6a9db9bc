/-
  Plain library, part 8: operations that make or write own blocks.
-/
import Derived.Test.YtkgnjpoafilicaaPbQuietC
set_option linter.unusedVariables false
set_option linter.unusedSimpArgs false
namespace Go.Pb
open Go Go.RowKit

def fits (m bytes : Nat) : Bool := decide (m * bytes ≤ 140737488355328 ∧ m ≤ 4611686018427387904)

theorem fits_small {m bytes : Nat} (hm : m ≤ 1000000000) (hb : bytes ≤ 100000) : fits m bytes = true := by
  have h := Nat.mul_le_mul hm hb
  simp only [fits, decide_eq_true_eq]
  omega

def rowCells : List PV → Option (List PV)
  | [] => some []
  | e :: es => match e.cellsOf, rowCells es with | some a, some b => some (a ++ b) | _, _ => none

def srcF (h : Heap) (sz : Nat) : PV → Option (Nat × List PV)
  | .sc (.slice _ 0 0) => some (0, [])
  | .fs _ es => if es.all (fun v => cnt v == some sz) then (rowCells es).map fun cs => (es.length, cs) else none
  | .os id ver off m => match h.bl[id]? with
    | some (.cells ver' _ _ cs) => if ver' = ver ∧ off + m * sz ≤ cs.length then some (m, (cs.drop off).take (m * sz)) else none
    | _ => none
  | _ => none

def newBlk (h : Heap) (t : TypeId) (cs : List PV) : Heap := ⟨h.nv + 1, h.bl ++ [.cells h.nv t true cs]⟩

def appF (h : Heap) (e : TypeId) (sz bytes : Nat) (m : Nat) (news : List PV) : PV → Option (PV × Heap)
  | .sc (.slice ad 0 0) => if m = 0 then some (.sc (.slice ad 0 0), h) else
      if fits m bytes = true then some (.os h.bl.length h.nv 0 m, newBlk h e news) else none
  | .fs tight es => if m = 0 then some (.fs tight es, h) else
      if tight = true ∧ es.all (fun v => cnt v == some sz) = true ∧ fits (es.length + m) bytes = true then (rowCells es).map fun cs => (.os h.bl.length h.nv 0 (es.length + m), newBlk h e (cs ++ news)) else none
  | .os id ver 0 n => if m = 0 then some (.os id ver 0 n, h) else match h.bl[id]? with
    | some (.cells ver' ty true cs) => if ver' = ver ∧ ty = e ∧ n * sz ≤ cs.length ∧ fits (n + m) bytes = true then
        some (.os id h.nv 0 (n + m), ⟨h.nv + 1, h.bl.set id (.cells h.nv e true (cs.take (n * sz) ++ news))⟩) else none
    | _ => none
  | _ => none

def repCells (n : Nat) (cs : List PV) : List PV := (List.replicate n cs).flatten

/-! Maps whose keys are numbers -/
def isK (kk : IntKind) (a : Int) : Value → Bool
  | .int k b => k == kk && b == a
  | _ => false
def kindK (kk : IntKind) : Value → Bool
  | .int k _ => k == kk
  | _ => false
def getM (kk : IntKind) (a : Int) : List (Value × PV) → Option PV
  | [] => none
  | e :: r => bif isK kk a e.1 then some e.2 else getM kk a r
def putM (kk : IntKind) (a : Int) (v : PV) : List (Value × PV) → List (Value × PV)
  | [] => [(.int kk a, v)]
  | e :: r => bif isK kk a e.1 then (.int kk a, v) :: r else e :: putM kk a v r
def lookM (h : Heap) (z : Value) (ok : Bool) (m i : PV) : Option (PV × Heap) := match m, i with
  | .om id ver, .sc (.int kk a) => match h.bl[id]? with
    | some (.mp ver' es) => if ver' = ver ∧ es.all (fun e => kindK kk e.1) = true then
        some (bif ok then .tup [((getM kk a es).getD (.ofConst z)), .sc (.bool (getM kk a es).isSome)] else (getM kk a es).getD (.ofConst z), h) else none
    | _ => none
  | _, _ => none
def updM (h : Heap) (m i v : PV) : Option (PV × Heap) := match m, i with
  | .om id ver, .sc (.int kk a) => match h.bl[id]? with
    | some (.mp ver' es) => if ver' = ver ∧ es.all (fun e => kindK kk e.1) = true then some (.tup [], ⟨h.nv, h.bl.set id (.mp ver (putM kk a v es))⟩) else none
    | _ => none
  | _, _ => none

/-- What an operation that makes or writes own blocks gives. -/
def opL (T : Nat → PV) (h : Heap) : AOp → Option (PV × Heap)
  | .box true t x => (ev T x).cellsOf.map fun cs => (.op h.bl.length h.nv 0, newBlk h t cs)
  | .alloc true t z => (PV.ofConst z).cellsOf.map fun cs => (.op h.bl.length h.nv 0, newBlk h t cs)
  | .bslice true e sz z parts => if (parts.map (ev T)).all (fun v => cnt v == some sz) then (rowCells (parts.map (ev T))).map fun cs => (.os h.bl.length h.nv 0 parts.length, newBlk h e cs) else none
  | .store sz x v => match ev T x with
    | .op id ver off => match h.bl[id]?, (ev T v).cellsOf with
      | some (.cells ver' ty true cs), some ds => if ver' = ver ∧ ds.length = sz ∧ off + sz ≤ cs.length then some (.tup [], ⟨h.nv, h.bl.set id (.cells ver ty true (spl cs off ds))⟩) else none
      | _, _ => none
    | _ => none
  | .mkSlice e sz bytes z l c => match ev T l, ev T c with
    | .sc (.int _ l), .sc (.int _ c) => if 0 ≤ l ∧ l ≤ c ∧ fits c.toNat bytes = true then
        some (.os h.bl.length h.nv 0 l.toNat, newBlk h e (repCells l.toNat (z.cells.toList.map .sc))) else none
    | _, _ => none
  | .append _ e sz bytes s x => match srcF h sz (ev T x) with
    | some (m, news) => appF h e sz bytes m news (ev T s)
    | none => none
  | .mkMap _ => some (.om h.bl.length h.nv, ⟨h.nv + 1, h.bl ++ [.mp h.nv []]⟩)
  | .lookup _ _ _ z ok x i => lookM h z ok (ev T x) (ev T i)
  | .mapUpdate _ _ m i v => updM h (ev T m) (ev T i) (ev T v)
  | _ => none

section
variable {P : Program} {x : Cx} {w0 : World} {F0 : Nat → Prop} {h : Heap} {n : Nat} {T : Nat → PV} {a : Act}

def GoodL (P : Program) (w0 : World) (F0 : Nat → Prop) (a : Act) (x : Cx) (o : Oper) (nv : Nat) (r : PV) (h' : Heap) : Prop :=
  ∃ nx v y, (execOp a.eval o).run P x.w = .ok nx y.w ∧ (nx = .value v ∨ (nx = .skip ∧ v = undef)) ∧ RelP P w0 F0 h' y ∧ Ext x y ∧ VR P y r v ∧ ∀ id ver, ver < nv → x.J id ver = none → y.J id ver = none

def updJ (J : Nat → Nat → Option Nat) (id ver b : Nat) : Nat → Nat → Option Nat := fun i v => if i = id ∧ v = ver then some b else J i v

theorem updJ_new {J : Nat → Nat → Option Nat} {id ver b : Nat} : updJ J id ver b id ver = some b := by simp [updJ]

theorem updJ_none {J : Nat → Nat → Option Nat} {id ver b nv : Nat} (hv : J id ver ≠ none ∨ nv ≤ ver) : ∀ i v, v < nv → J i v = none → updJ J id ver b i v = none := by
  intro i v hlt hn
  unfold updJ
  rw [if_neg]
  · exact hn
  · rintro ⟨rfl, rfl⟩
    rcases hv with h | h
    · exact h hn
    · omega

theorem updJ_old {J : Nat → Nat → Option Nat} {id ver b i v c : Nat} (hn : J id ver = none) (h : J i v = some c) : updJ J id ver b i v = some c := by
  unfold updJ
  split
  · rename_i e; rw [e.1, e.2, hn] at h; cases h
  · exact h

theorem VRL_ext' {x y : Cx} (e : Ext x y) {cs : List PV} {us : List Value} (h : VRL P x cs us) : VRL P y cs us := VRL_ext e cs us h

/-- A new block of the call's own, at place 'id' of the small heap. -/
theorem RelP.newOwnAt (R : RelP P w0 F0 h x) {t : TypeId} {cs : List PV} {us : Array Value} {bl' : List Blk} {id vr nv' : Nat} (hl : cs.length ≤ us.size) (hv : VRL P x cs (us.toList.take cs.length))
    (hfr : x.J id vr = none) (hvn : vr < nv') (hnn : h.nv ≤ nv')
    (hbl : ∀ (k : Nat) blk, bl'[k]? = some blk → (k = id ∧ blk = .cells vr t true cs) ∨ (k ≠ id ∧ h.bl[k]? = some blk)) :
    let y : Cx := ⟨x.w.alloc (.cells us t), x.F, updJ x.J id vr x.w.heap.size⟩
    RelP P w0 F0 ⟨nv', bl'⟩ y ∧ Ext x y := by
  intro y
  have hs : y.w.heap.size = x.w.heap.size + 1 := World.size_alloc _ _
  have hold : ∀ b, b < x.w.heap.size → y.w.heap[b]? = x.w.heap[b]? := fun b hb => Below.heap_alloc _ _ b hb
  have E : Ext x y := by
    refine ⟨by omega, fun b hb => ⟨hb, hold b (R.fnew b hb).1⟩, fun i v b hb => updJ_old hfr hb, fun b cur ty fr hb => ⟨cur, ?_, rfl⟩⟩
    rw [hold b (Array.getElem?_eq_some_iff.1 hb).1]; exact hb
  have hJ : ∀ i v b, y.J i v = some b → (i = id ∧ v = vr ∧ b = x.w.heap.size) ∨ x.J i v = some b := by
    intro i v b hb
    show _ ∨ _
    change updJ x.J id vr x.w.heap.size i v = some b at hb
    unfold updJ at hb
    split at hb
    · rename_i e; simp only [Option.some.injEq] at hb; exact .inl ⟨e.1, e.2, hb.symm⟩
    · exact .inr hb
  refine ⟨⟨R.below.trans ((Below.refl _ _).alloc R.below.size _), R.f0, R.fsub, fun b hb => ⟨Nat.lt_of_lt_of_le (R.fnew b hb).1 (by omega), (R.fnew b hb).2⟩, fun i v b hb => ?_, fun i v hv' => ?_, fun i i' blk blk' b h1 h2 h3 h4 => ?_, fun k blk hk => ?_⟩, E⟩
  · rcases hJ i v b hb with ⟨_, _, rfl⟩ | hb
    · exact ⟨R.below.size, by omega⟩
    · have := R.own i v b hb; exact ⟨this.1, by omega⟩
  · show updJ x.J id vr x.w.heap.size i v = none
    have hlt : nv' ≤ v := hv'
    rw [show updJ x.J id vr x.w.heap.size i v = x.J i v by unfold updJ; rw [if_neg (by omega)]]
    exact R.fresh i v (by omega)
  · rcases hJ _ _ _ h3 with ⟨e1, e2, e3⟩ | h3'
    · rcases hJ _ _ _ h4 with ⟨e4, e5, e6⟩ | h4'
      · rw [e1, e4]
      · have := (R.own _ _ _ h4').2; omega
    · rcases hJ _ _ _ h4 with ⟨e4, e5, e6⟩ | h4'
      · have := (R.own _ _ _ h3').2; omega
      · have k1 : h.bl[i]? = some blk := by
          rcases hbl i blk h1 with ⟨e, rfl⟩ | ⟨_, e⟩
          · rw [show Blk.ver (.cells vr t true cs) = vr from rfl, e, hfr] at h3'; cases h3'
          · exact e
        have k2 : h.bl[i']? = some blk' := by
          rcases hbl i' blk' h2 with ⟨e, rfl⟩ | ⟨_, e⟩
          · rw [show Blk.ver (.cells vr t true cs) = vr from rfl, e, hfr] at h4'; cases h4'
          · exact e
        exact R.inj i i' blk blk' b k1 k2 h3' h4'
  · rcases hbl k blk hk with ⟨rfl, rfl⟩ | ⟨hne, hk'⟩
    · intro b hb
      have hb' : b = x.w.heap.size := by
        change updJ x.J k vr x.w.heap.size k vr = some b at hb
        rw [updJ_new] at hb
        simpa using hb.symm
      subst hb'
      refine ⟨⟨us, heap_alloc_new _ _, hl, VRL_ext' E hv⟩, fun hF => ?_⟩
      exact absurd (R.fnew _ hF).1 (Nat.lt_irrefl _)
    · refine BlkR_ext E ?_ (fun b hj => ⟨hold b (R.own _ _ _ hj).2, Iff.rfl⟩) (R.hr k blk hk')
      show updJ x.J id vr x.w.heap.size k blk.ver = x.J k blk.ver
      unfold updJ
      rw [if_neg (fun e => hne e.1)]

theorem RelP.newOwn (R : RelP P w0 F0 h x) {t : TypeId} {cs : List PV} {us : Array Value} {bl' : List Blk} {id : Nat} (hl : cs.length ≤ us.size) (hv : VRL P x cs (us.toList.take cs.length))
    (hbl : ∀ (k : Nat) blk, bl'[k]? = some blk → (k = id ∧ blk = .cells h.nv t true cs) ∨ (k ≠ id ∧ h.bl[k]? = some blk)) :
    let y : Cx := ⟨x.w.alloc (.cells us t), x.F, updJ x.J id h.nv x.w.heap.size⟩
    RelP P w0 F0 ⟨h.nv + 1, bl'⟩ y ∧ Ext x y := R.newOwnAt hl hv (R.fresh id h.nv (Nat.le_refl _)) (Nat.lt_succ_self _) (Nat.le_succ _) hbl

/-- An own block written: at place 'id', with the same number or a new one. -/
theorem RelP.setOwn (R : RelP P w0 F0 h x) {t : TypeId} {cs ds : List PV} {b ver id nv' ver' : Nat} {cur us : Array Value} {bl' : List Blk} (hb : h.bl[id]? = some (.cells ver t true cs)) (hj : x.J id ver = some b)
    (hcur : x.w.heap[b]? = some (.cells cur t (0, 0))) (hsz : us.size = cur.size) (hl : ds.length ≤ us.size) (hv : VRL P x ds (us.toList.take ds.length))
    (hn : (ver' = ver ∧ nv' = h.nv) ∨ (ver' = h.nv ∧ nv' = h.nv + 1))
    (hbl : ∀ (k : Nat) blk, bl'[k]? = some blk → (k = id ∧ blk = .cells ver' t true ds) ∨ (k ≠ id ∧ h.bl[k]? = some blk)) :
    let y : Cx := ⟨x.w.setRow b us, x.F, updJ x.J id ver' b⟩
    RelP P w0 F0 ⟨nv', bl'⟩ y ∧ Ext x y := by
  intro y
  have hs : y.w.heap.size = x.w.heap.size := size_setRow _ _ _
  have hbn : ¬ x.F b := (R.hr id _ hb b hj).2
  have hown := R.own _ _ _ hj
  have hold : ∀ c, c ≠ b → y.w.heap[c]? = x.w.heap[c]? := fun c hc => setRow_other _ _ _ _ hc
  have hnew : y.w.heap[b]? = some (.cells us t (0, 0)) := setRow_heap _ _ _ _ _ _ hcur
  have hJ : ∀ i v c, y.J i v = some c → (i = id ∧ v = ver' ∧ c = b) ∨ x.J i v = some c := by
    intro i v c hc
    change updJ x.J id ver' b i v = some c at hc
    unfold updJ at hc
    split at hc
    · rename_i e; simp only [Option.some.injEq] at hc; exact .inl ⟨e.1, e.2, hc.symm⟩
    · exact .inr hc
  have hJ' : ∀ i v c, x.J i v = some c → y.J i v = some c := by
    intro i v c hc
    show updJ x.J id ver' b i v = some c
    unfold updJ
    split
    · rename_i e
      rcases hn with ⟨e1, _⟩ | ⟨e1, _⟩
      · rw [e.1, e.2, e1, hj] at hc; exact hc
      · rw [e.1, e.2, e1, R.fresh id h.nv (Nat.le_refl _)] at hc; cases hc
    · exact hc
  have E : Ext x y := by
    refine ⟨by omega, fun c hc => ⟨hc, hold c (fun e => hbn (e ▸ hc))⟩, hJ', fun c cu ty fr hc => ?_⟩
    by_cases e : c = b
    · subst e
      rw [hcur] at hc
      simp only [Option.some.injEq, Obj.cells.injEq] at hc
      obtain ⟨rfl, rfl, rfl⟩ := hc
      exact ⟨us, hnew, hsz⟩
    · exact ⟨cu, by rw [hold c e]; exact hc, rfl⟩
  refine ⟨⟨?_, R.f0, R.fsub, fun c hc => ⟨by rw [hs]; exact (R.fnew c hc).1, (R.fnew c hc).2⟩, fun i v c hc => ?_, fun i v hv' => ?_, fun i i' blk blk' c h1 h2 h3 h4 => ?_, fun k blk hk => ?_⟩, E⟩
  · exact R.below.trans ⟨rfl, rfl, rfl, by omega, fun k hk => hold k (by omega)⟩
  · rcases hJ i v c hc with ⟨_, _, rfl⟩ | hc
    · exact ⟨hown.1, by omega⟩
    · have := R.own i v c hc; exact ⟨this.1, by omega⟩
  · show updJ x.J id ver' b i v = none
    have hle : nv' ≤ v := hv'
    have hne : ¬ (i = id ∧ v = ver') := by
      rintro ⟨rfl, rfl⟩
      rcases hn with ⟨e1, e2⟩ | ⟨e1, e2⟩
      · rw [e1] at hle; rw [R.fresh i ver (by omega)] at hj; cases hj
      · omega
    unfold updJ
    rw [if_neg hne]
    exact R.fresh i v (by omega)
  · have back : ∀ (k : Nat) bk, bl'[k]? = some bk → y.J k bk.ver = some c → ∃ bk', h.bl[k]? = some bk' ∧ x.J k bk'.ver = some c := by
      intro k bk hk hc
      rcases hbl k bk hk with ⟨rfl, rfl⟩ | ⟨hne, hk'⟩
      · refine ⟨_, hb, ?_⟩
        have : c = b := by
          change updJ x.J k ver' b k ver' = some c at hc
          rw [updJ_new] at hc
          simpa using hc.symm
        rw [this]; exact hj
      · refine ⟨bk, hk', ?_⟩
        rcases hJ _ _ _ hc with ⟨e, _, _⟩ | h5
        · exact absurd e hne
        · exact h5
    obtain ⟨b1, k1, k2⟩ := back i blk h1 h3
    obtain ⟨b2, k3, k4⟩ := back i' blk' h2 h4
    exact R.inj i i' b1 b2 c k1 k3 k2 k4
  · rcases hbl k blk hk with ⟨rfl, rfl⟩ | ⟨hne, hk'⟩
    · intro c hc
      have hc' : c = b := by
        change updJ x.J k ver' b k ver' = some c at hc
        rw [updJ_new] at hc
        simpa using hc.symm
      subst hc'
      exact ⟨⟨us, hnew, hl, VRL_ext' E hv⟩, hbn⟩
    · have hyx : y.J k blk.ver = x.J k blk.ver := by
        show updJ x.J id ver' b k blk.ver = x.J k blk.ver
        unfold updJ
        rw [if_neg (fun e => hne e.1)]
      refine BlkR_ext E hyx (fun c hc => ⟨hold c (fun e => ?_), Iff.rfl⟩) (R.hr k blk hk')
      subst e
      exact hne (R.inj k id blk _ c hk' hb hc hj)

theorem bl_append {h : Heap} {blk : Blk} : ∀ (k : Nat) b, (h.bl ++ [blk])[k]? = some b → (k = h.bl.length ∧ b = blk) ∨ (k ≠ h.bl.length ∧ h.bl[k]? = some b) := by
  intro k b hk
  rw [List.getElem?_append] at hk
  split at hk
  · rename_i hlt; exact .inr ⟨by omega, hk⟩
  · rename_i hge
    have h1 : k - h.bl.length = 0 := by
      rcases Nat.eq_zero_or_pos (k - h.bl.length) with h1 | h1
      · exact h1
      · rw [List.getElem?_eq_none (by simp; omega)] at hk; cases hk
    rw [h1] at hk
    simp only [List.getElem?_cons_zero, Option.some.injEq] at hk
    exact .inl ⟨by omega, hk.symm⟩

theorem bl_set {h : Heap} {blk : Blk} {id : Nat} : ∀ (k : Nat) b, (h.bl.set id blk)[k]? = some b → (k = id ∧ b = blk) ∨ (k ≠ id ∧ h.bl[k]? = some b) := by
  intro k b hk
  rw [List.getElem?_set] at hk
  split at hk
  · rename_i e
    split at hk
    · simp only [Option.some.injEq] at hk; exact .inl ⟨e.symm, hk.symm⟩
    · cases hk
  · rename_i e; exact .inr ⟨fun e' => e e'.symm, hk⟩

end
end Go.Pb
