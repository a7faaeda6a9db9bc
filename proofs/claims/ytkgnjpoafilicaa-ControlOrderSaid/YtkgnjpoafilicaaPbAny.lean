/-
  Plain library, part 14: statements whose order Go leaves open, the theorem.
-/
import Derived.Test.YtkgnjpoafilicaaPbDraw
set_option linter.unusedVariables false
set_option linter.unusedSimpArgs false
namespace Go.Pb
open Go Go.RowKit

/-! What must have come before -/
def befs : List Nat → List Oper → List Nat
  | acc, [] => acc
  | acc, o :: r => befs (acc ++ [o.after.toList.foldl (fun s e => if Region.binds .any e then s ||| (2 ^ e.on ||| acc.getD e.on 0) else s) 0]) r

def AOp.bar (o : AOp) : Bool := o.kind == 1 && !o.isA

def needs (x y : AOper) : Bool :=
  x.op.bar || (y.op.bar && !(x.hf || x.op.isA)) || (match x.dst with | some d => y.looks.contains d || y.dst == some d | none => false) || (match y.dst with | some d => x.looks.contains d | none => false)

def chkDraw (ops : Array Oper) (al : List AOper) : Bool :=
  let B := befs [] ops.toList
  ((List.range ops.size).all fun j => ((ops[j]?).map fun o => o.after.toList.all fun e => !Region.binds .any e || decide (e.on < j)).getD true) &&
  (al.zipIdx.all fun q => (al.zipIdx.take q.2).all fun p => !needs p.1 q.1 || (B.getD q.2 0).testBit p.2)

theorem befs_acc : ∀ (l : List Oper) (acc : List Nat), ∃ t, befs acc l = acc ++ t
  | [], acc => ⟨[], by simp [befs]⟩
  | o :: r, acc => by
    simp only [befs]
    obtain ⟨t, ht⟩ := befs_acc r (acc ++ [o.after.toList.foldl (fun s e => if Region.binds .any e then s ||| (2 ^ e.on ||| acc.getD e.on 0) else s) 0])
    exact ⟨_, by rw [ht, List.append_assoc]⟩

theorem fold_bits {D : Nat → Bool} {acc : List Nat} (hacc : ∀ i, D i = true → ∀ b, (acc.getD i 0).testBit b = true → D b = true) : ∀ (es : List Edge) (s : Nat), (∀ b, s.testBit b = true → D b = true) →
    (∀ e ∈ es, Region.binds .any e = true → D e.on = true) → ∀ b, (es.foldl (fun s e => if Region.binds .any e then s ||| (2 ^ e.on ||| acc.getD e.on 0) else s) s).testBit b = true → D b = true
  | [], s, hs, _, b, hb => hs b hb
  | e :: es, s, hs, he, b, hb => by
    simp only [List.foldl_cons] at hb
    refine fold_bits hacc es _ ?_ (fun e' h' => he e' (List.mem_cons_of_mem _ h')) b hb
    intro c hc
    split at hc
    · rename_i hbind
      have hD := he e (List.mem_cons_self ..) hbind
      simp only [Nat.testBit_or, Bool.or_eq_true, Nat.testBit_two_pow, decide_eq_true_eq] at hc
      rcases hc with hc | hc | hc
      · exact hs c hc
      · rw [← hc]; exact hD
      · exact hacc e.on hD c hc
    · exact hs c hc

theorem befs_spec {D : Nat → Bool} : ∀ (l : List Oper) (acc : List Nat), (∀ i, D i = true → ∀ b, (acc.getD i 0).testBit b = true → D b = true) →
    (∀ j o, l[j]? = some o → D (acc.length + j) = true → ∀ e ∈ o.after.toList, Region.binds .any e = true → D e.on = true) →
    ∀ i, D i = true → ∀ b, ((befs acc l).getD i 0).testBit b = true → D b = true
  | [], acc, hacc, _, i, hi, b, hb => hacc i hi b hb
  | o :: r, acc, hacc, hl, i, hi, b, hb => by
    simp only [befs] at hb
    refine befs_spec r _ ?_ (fun j o' hj hD => hl (j + 1) o' (by simpa using hj) (by simpa [Nat.add_assoc, Nat.add_comm 1 j] using hD)) i hi b hb
    intro k hk c hc
    rw [List.getD_eq_getElem?_getD, List.getElem?_append] at hc
    split at hc
    · exact hacc k hk c (by rw [List.getD_eq_getElem?_getD]; exact hc)
    · rename_i hge
      by_cases e0 : k - acc.length = 0
      · rw [e0] at hc
        simp only [List.getElem?_cons_zero, Option.getD_some] at hc
        exact fold_bits hacc _ 0 (by simp) (hl 0 o rfl (by rw [Nat.add_zero, show acc.length = k by omega]; exact hk)) c hc
      · rw [List.getElem?_eq_none (by simp; omega)] at hc
        simp at hc

theorem chk_needs {ops : Array Oper} {al : List AOper} (h : chkDraw ops al = true) {i j : Nat} {x y : AOper} (hi : al[i]? = some x) (hj : al[j]? = some y) (hij : i < j) (hn : needs x y = true) :
    ((befs [] ops.toList).getD j 0).testBit i = true := by
  simp only [chkDraw, Bool.and_eq_true] at h
  have h2 := h.2
  rw [List.all_eq_true] at h2
  have hy := h2 (y, j) (by rw [List.mem_zipIdx_iff_getElem?]; simpa using hj)
  simp only [List.all_eq_true] at hy
  have hx := hy (x, i) (by
    rw [List.mem_take_iff_getElem]
    have hlt : i < al.length := (List.getElem?_eq_some_iff.1 hi).1
    have hltj : j < al.length := (List.getElem?_eq_some_iff.1 hj).1
    refine ⟨i, by simp; omega, ?_⟩
    have := (List.getElem?_eq_some_iff.1 hi).2
    simp [this])
  simpa [hn] using hx

theorem chk_edges {ops : Array Oper} {al : List AOper} (h : chkDraw ops al = true) {j : Nat} {o : Oper} (hj : ops[j]? = some o) : ∀ e ∈ o.after.toList, Region.binds .any e = true → e.on < j := by
  simp only [chkDraw, Bool.and_eq_true] at h
  have h1 := h.1
  rw [List.all_eq_true] at h1
  have := h1 j (List.mem_range.2 (Array.getElem?_eq_some_iff.1 hj).1)
  simp only [hj, Option.map_some, Option.getD_some, List.all_eq_true] at this
  intro e he hb
  have := this e he
  simpa [hb] using this

/-- The operations that may come behind a later one that writes. -/
def lateOf (ops : Array Oper) (al : List AOper) : List Nat :=
  let B := befs [] ops.toList
  (al.zipIdx.filter fun p => al.zipIdx.any fun q => decide (p.2 < q.2) && q.1.op.bar && !(B.getD q.2 0).testBit p.2).map (·.2)

/-! The temporaries when the operations of D have been carried out -/
def dstOf (al : List AOper) (k : Nat) : Option Tmp := (al[k]?).bind (·.dst)
def resOf (ss : List Stp) (k : Nat) : PV := ((ss[k]?).map (·.r)).getD .junk
def hOf (h0 : Heap) (ss : List Stp) : Nat → Heap
  | 0 => h0
  | k + 1 => ((ss[k]?).map (·.h)).getD h0

def TT (al : List AOper) (ss : List Stp) (D : Nat → Bool) (T : Nat → PV) : Nat → (Nat → PV)
  | 0 => T
  | k + 1 => if D k then updO (TT al ss D T k) (dstOf al k) (resOf ss k) else TT al ss D T k

def allD : Nat → Bool := fun _ => true

theorem TT_allD (al : List AOper) (ss : List Stp) (T : Nat → PV) (k : Nat) : TT al ss allD T (k + 1) = updO (TT al ss allD T k) (dstOf al k) (resOf ss k) := if_pos rfl

theorem TT_shift (o : AOper) (s : Stp) (al : List AOper) (ss : List Stp) (T : Nat → PV) : ∀ k, TT (o :: al) (s :: ss) allD T (k + 1) = TT al ss allD (updO T o.dst s.r) k
  | 0 => by simp [TT, allD, dstOf, resOf]
  | k + 1 => by
    have ih := TT_shift o s al ss T k
    rw [TT, ih]
    conv => rhs; rw [TT]
    simp [allD, dstOf, resOf]

theorem updO_ne {T : Nat → PV} {d : Option Tmp} {v : PV} {t : Nat} (h : d ≠ some t) : updO T d v t = T t := by
  cases d with
  | none => rfl
  | some s =>
    simp only [updO, upd]
    rw [if_neg]
    intro e; exact h (by rw [e])

theorem updO_eq {T : Nat → PV} {v : PV} {t : Nat} : updO T (some t) v t = v := by simp [updO, upd]

section
variable {al : List AOper} {ss : List Stp} {D D' : Nat → Bool} {T : Nat → PV}

theorem TT_at {i : Nat} {t : Nat} (hlo : ∀ j, j < i → dstOf al j = some t → D j = true) (hhi : ∀ j, i ≤ j → dstOf al j = some t → D j = false) :
    ∀ N, i ≤ N → TT al ss D T N t = TT al ss allD T i t := by
  have h1 : ∀ k, k ≤ i → TT al ss D T k t = TT al ss allD T k t := by
    intro k
    induction k with
    | zero => intro _; rfl
    | succ k ih =>
      intro hk
      have ih := ih (by omega)
      rw [TT_allD, TT]
      by_cases hd : dstOf al k = some t
      · rw [hlo k (by omega) hd, if_pos rfl, hd, updO_eq, updO_eq]
      · rw [updO_ne (T := TT al ss allD T k) hd]
        split
        · rw [updO_ne hd]; exact ih
        · exact ih
  have h2 : ∀ m, TT al ss D T (i + m) t = TT al ss D T i t := by
    intro m
    induction m with
    | zero => rfl
    | succ m ih =>
      rw [← Nat.add_assoc, TT]
      split
      · rename_i hD
        have hd : dstOf al (i + m) ≠ some t := fun e => by
          have := hhi (i + m) (by omega) e
          rw [this] at hD; cases hD
        rw [updO_ne hd]; exact ih
      · exact ih
  intro N hN
  have := h2 (N - i)
  rw [show i + (N - i) = N by omega] at this
  rw [this, h1 i (Nat.le_refl _)]

theorem TT_put {i N : Nat} (hiN : i < N) (hi : D i = false) (hD' : ∀ j, D' j = (D j || j == i)) (hno : ∀ j t, i < j → D j = true → dstOf al i = some t → dstOf al j ≠ some t) :
    TT al ss D' T N = updO (TT al ss D T N) (dstOf al i) (resOf ss i) := by
  funext t
  by_cases hd : dstOf al i = some t
  · rw [hd, updO_eq]
    have h1 : ∀ m, TT al ss D' T (i + 1 + m) t = resOf ss i := by
      intro m
      induction m with
      | zero =>
        rw [Nat.add_zero, TT, hD' i]
        simp only [beq_self_eq_true, Bool.or_true, if_true, hd, updO_eq]
      | succ m ih =>
        rw [← Nat.add_assoc, TT]
        split
        · rename_i hDm
          rw [hD'] at hDm
          have : (i + 1 + m == i) = false := by simp; omega
          rw [this, Bool.or_false] at hDm
          rw [updO_ne (hno (i + 1 + m) t (by omega) hDm hd)]; exact ih
        · exact ih
    have := h1 (N - (i + 1))
    rwa [show i + 1 + (N - (i + 1)) = N by omega] at this
  · rw [updO_ne hd]
    have h1 : ∀ k, TT al ss D' T k t = TT al ss D T k t := by
      intro k
      induction k with
      | zero => rfl
      | succ k ih =>
        simp only [TT, hD' k]
        by_cases hk : k = i
        · subst hk
          simp only [beq_self_eq_true, Bool.or_true, if_true, hi, Bool.false_eq_true, if_false]
          rw [updO_ne hd]; exact ih
        · have : (k == i) = false := by simpa using hk
          rw [this, Bool.or_false]
          split
          · by_cases hdk : dstOf al k = some t
            · rw [hdk, updO_eq, updO_eq]
            · rw [updO_ne hdk, updO_ne hdk]; exact ih
          · exact ih
    exact h1 N

theorem TT_all {e N : Nat} (heN : e ≤ N) (hlo : ∀ j, j < e → D j = true) (hhi : ∀ j, e ≤ j → j < N → D j = false) : TT al ss D T N = TT al ss allD T e := by
  have h1 : ∀ k, k ≤ e → TT al ss D T k = TT al ss allD T k := by
    intro k
    induction k with
    | zero => intro _; rfl
    | succ k ih => intro hk; rw [TT_allD, TT, hlo k (by omega), if_pos rfl, ih (by omega)]
  have h2 : ∀ m, e + m ≤ N → TT al ss D T (e + m) = TT al ss D T e := by
    intro m
    induction m with
    | zero => intro _; rfl
    | succ m ih => intro hm; rw [← Nat.add_assoc, TT, hhi (e + m) (by omega) (by omega)]; simp only [Bool.false_eq_true, if_false]; exact ih (by omega)
  have := h2 (N - e) (by omega)
  rw [show e + (N - e) = N by omega] at this
  rw [this, h1 e (Nat.le_refl _)]
end

theorem runD_spec {P : Program} : ∀ (al : List AOper) (T : Nat → PV) (h : Heap) (ss : List Stp) (T' : Nat → PV) (h' : Heap), RunD P al T h ss T' h' →
    T' = TT al ss allD T al.length ∧ h' = hOf h ss al.length ∧ ∀ k o, al[k]? = some o → StepD P o (TT al ss allD T k) (hOf h ss k) (resOf ss k) (hOf h ss (k + 1))
  | [], T, h, [], T', h', hr => by
    obtain ⟨rfl, rfl⟩ := hr
    exact ⟨rfl, rfl, fun k o hk => by simp at hk⟩
  | [], _, _, _ :: _, _, _, hr => by simp [RunD] at hr
  | _ :: _, _, _, [], _, _, hr => by simp [RunD] at hr
  | o :: al, T, h, s :: ss, T', h', hr => by
    obtain ⟨h1, h2⟩ := hr
    obtain ⟨e1, e2, e3⟩ := runD_spec al _ _ ss T' h' h2
    have hsh : ∀ k, k ≤ al.length → hOf h (s :: ss) (k + 1) = hOf s.h ss k ∨ (0 < k ∧ ss[k - 1]? = none) := by
      intro k _
      cases k with
      | zero => exact .inl (by simp [hOf])
      | succ k =>
        cases hs : ss[k]? with
        | none => exact .inr ⟨by omega, by simpa using hs⟩
        | some s' => exact .inl (by simp [hOf, hs])
    have hlen : ∀ (al : List AOper) (T : Nat → PV) (h : Heap) (ss : List Stp) (T' : Nat → PV) (h' : Heap), RunD P al T h ss T' h' → ss.length = al.length := by
      intro al
      induction al with
      | nil => intro T h ss T' h' hr; cases ss with | nil => rfl | cons _ _ => simp [RunD] at hr
      | cons o al ih => intro T h ss T' h' hr; cases ss with | nil => simp [RunD] at hr | cons s ss => simp [ih _ _ _ _ _ hr.2]
    have hl := hlen al _ _ ss T' h' h2
    have hsh' : ∀ k, k ≤ al.length → hOf h (s :: ss) (k + 1) = hOf s.h ss k := by
      intro k hk
      rcases hsh k hk with h3 | ⟨h3, h4⟩
      · exact h3
      · rw [List.getElem?_eq_none_iff] at h4; omega
    refine ⟨?_, ?_, ?_⟩
    · rw [List.length_cons, TT_shift]; exact e1
    · rw [List.length_cons, hsh' _ (Nat.le_refl _)]; exact e2
    · intro k o' hk
      cases k with
      | zero =>
        simp only [List.getElem?_cons_zero, Option.some.injEq] at hk
        subst hk
        simpa [TT, hOf, resOf] using h1
      | succ k =>
        simp only [List.getElem?_cons_succ] at hk
        have hlt := (List.getElem?_eq_some_iff.1 hk).1
        rw [TT_shift, hsh' k (by omega), hsh' (k + 1) (by omega)]
        have := e3 k o' hk
        simpa [resOf] using this

end Go.Pb
