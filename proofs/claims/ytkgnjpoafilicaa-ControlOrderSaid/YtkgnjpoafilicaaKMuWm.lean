/-
  Hand-written texts in one.
-/
import Derived.Test.YtkgnjpoafilicaaKTy
import Derived.Test.YtkgnjpoafilicaaPbP
set_option linter.unusedVariables false
set_option linter.unusedSimpArgs false
set_option maxRecDepth 100000
namespace Go.Proofs.Ytkgnjpoafilicaa
open Go Go.Pb Go.RowKit
mutual
def csn : api_ControlNode → Nat
  | ⟨_, _, _, t, e⟩ => 1 + csl t + csl e
def csl : List api_ControlNode → Nat
  | [] => 0
  | x :: l => csn x + csl l
end
theorem csn_eq (x : api_ControlNode) : csn x = 1 + csl x.Then + csl x.Else := by
  cases x
  rw [csn]
theorem csl_mem {x : api_ControlNode} : ∀ {l : List api_ControlNode}, x ∈ l → csn x ≤ csl l
  | [], h => by cases h
  | y :: l, h => by
    rw [csl]
    rcases List.mem_cons.1 h with rfl | h
    · omega
    · have := csl_mem h
      omega
theorem csl_ix {l : List api_ControlNode} {i : Int} (h0 : 0 ≤ i) (h1 : i < l.length) : csl (ix l i).Then < csl l ∧ csl (ix l i).Else < csl l := by
  have h := csl_mem (ix_mem h0 h1)
  rw [csn_eq] at h
  omega
theorem drop_ix {α : Type} [Inhabited α] {c : List α} {i : Int} (h0 : 0 ≤ i) (h1 : i < c.length) : c.drop i.toNat = ix c i :: c.drop (i + 1).toNat := by
  rw [ix_lt h0 h1, show (i + 1).toNat = i.toNat + 1 by omega]
  exact List.drop_eq_getElem_cons (by omega)
theorem drop_end {α : Type} {c : List α} {i : Int} (h1 : (c.length : Int) ≤ i) : c.drop i.toNat = [] := List.drop_eq_nil_of_le (by omega)
theorem csl_drop {l : List api_ControlNode} {i : Int} (h0 : 0 ≤ i) (h1 : i < l.length) : csl (l.drop i.toNat) = 1 + csl (ix l i).Then + csl (ix l i).Else + csl (l.drop (i + 1).toNat) := by
  rw [drop_ix h0 h1, csl, csn_eq]
mutual
def poN : api_ControlNode → List api_ControlNode
  | ⟨a, b, c, t, e⟩ => ⟨a, b, c, t, e⟩ :: (poL t ++ poL e)
/-- All nodes in preorder. -/
def poL : List api_ControlNode → List api_ControlNode
  | [] => []
  | x :: l => poN x ++ poL l
end
theorem poN_eq (x : api_ControlNode) : poN x = x :: (poL x.Then ++ poL x.Else) := by
  cases x
  rw [poN]
theorem poL_mem {x y : api_ControlNode} : ∀ {l : List api_ControlNode}, x ∈ l → y ∈ poN x → y ∈ poL l
  | [], h, _ => by cases h
  | z :: l, h, hy => by
    rw [poL]
    rcases List.mem_cons.1 h with rfl | h
    · exact List.mem_append_left _ hy
    · exact List.mem_append_right _ (poL_mem h hy)
mutual
theorem poN_len : ∀ (x : api_ControlNode), (poN x).length = csn x
  | ⟨a, b, c, t, e⟩ => by
    rw [poN, csn, List.length_cons, List.length_append, poL_len t, poL_len e]
    omega
theorem poL_len : ∀ (l : List api_ControlNode), (poL l).length = csl l
  | [] => by rw [poL, csl]; rfl
  | x :: l => by rw [poL, csl, List.length_append, poN_len x, poL_len l]
end
mutual
theorem poN_sub : ∀ (x : api_ControlNode), ∀ y ∈ poN x, (∀ z ∈ poN y, z ∈ poN x) ∧ csn y ≤ csn x
  | ⟨a, b, c, t, e⟩ => by
    intro y hy
    rw [poN] at hy
    rcases List.mem_cons.1 hy with rfl | hy
    · exact ⟨fun z hz => hz, Nat.le_refl _⟩
    · rw [poN, csn]
      rcases List.mem_append.1 hy with h | h
      · obtain ⟨h1, h2⟩ := poL_sub t y h
        exact ⟨fun z hz => List.mem_cons_of_mem _ (List.mem_append_left _ (h1 z hz)), by omega⟩
      · obtain ⟨h1, h2⟩ := poL_sub e y h
        exact ⟨fun z hz => List.mem_cons_of_mem _ (List.mem_append_right _ (h1 z hz)), by omega⟩
theorem poL_sub : ∀ (l : List api_ControlNode), ∀ y ∈ poL l, (∀ z ∈ poN y, z ∈ poL l) ∧ csn y ≤ csl l
  | [] => by intro y hy; rw [poL] at hy; cases hy
  | x :: l => by
    intro y hy
    rw [poL] at hy ⊢
    rw [csl]
    rcases List.mem_append.1 hy with h | h
    · obtain ⟨h1, h2⟩ := poN_sub x y h
      exact ⟨fun z hz => List.mem_append_left _ (h1 z hz), by omega⟩
    · obtain ⟨h1, h2⟩ := poL_sub l y h
      exact ⟨fun z hz => List.mem_append_right _ (h1 z hz), by omega⟩
end
def CB (l : List api_ControlNode) : Prop := ∀ y ∈ poL l, y.Cond.length ≤ 40
structure GL (l : List api_ControlNode) : Prop where
  csl : csl l ≤ 1000
  cb : CB l
structure GN (x : api_ControlNode) : Prop where
  csn : csn x ≤ 1000
  cb : ∀ y ∈ poN x, y.Cond.length ≤ 40
theorem GN.cond {x : api_ControlNode} (h : GN x) : x.Cond.length ≤ 40 := h.cb x (by rw [poN_eq]; exact List.mem_cons_self)
theorem GN.thn {x : api_ControlNode} (h : GN x) : GL x.Then := ⟨by have := h.csn; rw [csn_eq] at this; omega, fun y hy => h.cb y (by rw [poN_eq]; exact List.mem_cons_of_mem _ (List.mem_append_left _ hy))⟩
theorem GN.els {x : api_ControlNode} (h : GN x) : GL x.Else := ⟨by have := h.csn; rw [csn_eq] at this; omega, fun y hy => h.cb y (by rw [poN_eq]; exact List.mem_cons_of_mem _ (List.mem_append_right _ hy))⟩
theorem GL.at {l : List api_ControlNode} (h : GL l) {i : Int} (h0 : 0 ≤ i) (h1 : i < l.length) : GN (ix l i) := ⟨by have := csl_mem (ix_mem h0 h1); have := h.csl; omega, fun y hy => h.cb y (poL_mem (ix_mem h0 h1) hy)⟩
theorem len_csl : ∀ (l : List api_ControlNode), l.length ≤ csl l
  | [] => by simp
  | x :: l => by
    have := len_csl l
    rw [Go.Proofs.Ytkgnjpoafilicaa.csl, csn_eq, List.length_cons]
    omega
theorem GL.len {l : List api_ControlNode} (h : GL l) : l.length ≤ 1000 := Nat.le_trans (len_csl l) h.csl
theorem GL.nodes {l : List api_ControlNode} (h : GL l) : ∀ x ∈ poL l, GN x := fun x hx => ⟨by have := (poL_sub l x hx).2; have := h.csl; omega, fun y hy => h.cb y ((poL_sub l x hx).1 y hy)⟩
def control_clone (x : api_ControlNode) : api_ControlNode := x
def control_cloneAll (l : List api_ControlNode) : List api_ControlNode := l
section
variable {σ : Type} (step : api_ControlNode → σ → Bool × σ)
mutual
def preN : api_ControlNode → σ → Bool × σ
  | ⟨a, b, c, t, e⟩, s => if (step ⟨a, b, c, t, e⟩ s).1 = true then (if (preL t (step ⟨a, b, c, t, e⟩ s).2).1 = true then preL e (preL t (step ⟨a, b, c, t, e⟩ s).2).2 else (false, (preL t (step ⟨a, b, c, t, e⟩ s).2).2)) else (false, (step ⟨a, b, c, t, e⟩ s).2)
/-- What a visitor is asked in preorder, until it says no. -/
def preL : List api_ControlNode → σ → Bool × σ
  | [], s => (true, s)
  | x :: l, s => if (preN x s).1 = true then preL l (preN x s).2 else (false, (preN x s).2)
end
theorem preN_eq (x : api_ControlNode) (s : σ) : preN step x s = if (step x s).1 = true then (if (preL step x.Then (step x s).2).1 = true then preL step x.Else (preL step x.Then (step x s).2).2 else (false, (preL step x.Then (step x s).2).2)) else (false, (step x s).2) := by
  cases x
  rw [preN]
theorem preL_nil (s : σ) : preL step [] s = (true, s) := by rw [preL]
theorem preL_cons (x : api_ControlNode) (l : List api_ControlNode) (s : σ) : preL step (x :: l) s = if (preN step x s).1 = true then preL step l (preN step x s).2 else (false, (preN step x s).2) := by rw [preL]
def control_preorder (c : List api_ControlNode) (s : σ) : Bool × σ := preL step c s
end
section
variable {σ : Type} (ap : Int → σ → Bool × σ) (ts : List api_ExprNode → σ → Bool × σ)
/-- What one node asks, and where it leads. -/
def brN (x : api_ControlNode) (s : σ) : List api_ControlNode × σ :=
  if x.Kind = 1 then ([], (ap x.Table s).2)
  else if x.Kind = 3 then (if (ap x.Table s).1 = true then x.Then else x.Else, (ap x.Table s).2)
  else if x.Kind = 2 then (if (ts x.Cond s).1 = true then x.Then else x.Else, (ts x.Cond s).2)
  else ([], s)
mutual
def wkN : api_ControlNode → σ → σ
  | ⟨k, t, c, th, el⟩, s =>
    if k = 1 then (ap t s).2
    else if k = 3 then (if (ap t s).1 = true then wkL th (ap t s).2 else wkL el (ap t s).2)
    else if k = 2 then (if (ts c s).1 = true then wkL th (ts c s).2 else wkL el (ts c s).2)
    else s
/-- What a walk does. -/
def wkL : List api_ControlNode → σ → σ
  | [], s => s
  | x :: l, s => wkL l (wkN x s)
end
theorem wkL_nil (s : σ) : wkL ap ts [] s = s := by rw [wkL]
theorem wkL_cons (x : api_ControlNode) (l : List api_ControlNode) (s : σ) : wkL ap ts (x :: l) s = wkL ap ts l (wkN ap ts x s) := by rw [wkL]
theorem wkN_eq (x : api_ControlNode) (s : σ) : wkN ap ts x s = wkL ap ts (brN ap ts x s).1 (brN ap ts x s).2 := by
  cases x with
  | mk k t c th el =>
    rw [wkN]
    simp only [brN]
    split
    · rw [wkL_nil]
    · split
      · split <;> rfl
      · split
        · split <;> rfl
        · rw [wkL_nil]
theorem brN_csl (x : api_ControlNode) (s : σ) : csl (brN ap ts x s).1 + 1 ≤ csn x := by
  rw [csn_eq]
  unfold brN
  split
  · simp [csl]; omega
  · split
    · show csl (if (ap x.Table s).1 = true then x.Then else x.Else) + 1 ≤ _
      split <;> omega
    · split
      · show csl (if (ts x.Cond s).1 = true then x.Then else x.Else) + 1 ≤ _
        split <;> omega
      · simp [csl]; omega
theorem brN_gl {x : api_ControlNode} (h : GN x) (s : σ) : GL (brN ap ts x s).1 := by
  have h0 : GL [] := ⟨by simp [csl], fun y hy => by simp [poL] at hy⟩
  unfold brN
  split
  · exact h0
  · split
    · show GL (if (ap x.Table s).1 = true then x.Then else x.Else)
      split
      · exact h.thn
      · exact h.els
    · split
      · show GL (if (ts x.Cond s).1 = true then x.Then else x.Else)
        split
        · exact h.thn
        · exact h.els
      · exact h0
end
end Go.Proofs.Ytkgnjpoafilicaa
