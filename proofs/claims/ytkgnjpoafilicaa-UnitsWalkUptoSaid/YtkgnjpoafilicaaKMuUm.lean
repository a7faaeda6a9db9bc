/-
  Hand-written texts in one.
-/
import Derived.Test.YtkgnjpoafilicaaKTy
import Derived.Test.YtkgnjpoafilicaaPbP
import Derived.Test.YtkgnjpoafilicaaPbLaw
set_option linter.unusedVariables false
set_option linter.unusedSimpArgs false
set_option maxRecDepth 100000
namespace Go.Proofs.Ytkgnjpoafilicaa
open Go Go.Pb Go.RowKit
mutual
def csn : api_ControlNode → Nat
  | ⟨_, _, _, t, e⟩ => 1 + csl t + csl e
def csl : List api_ControlNode → Nat
  | [] => 0
  | x :: l => csn x + csl l
end
theorem csn_eq (x : api_ControlNode) : csn x = 1 + csl x.Then + csl x.Else := by
  cases x
  rw [csn]
theorem csl_mem {x : api_ControlNode} : ∀ {l : List api_ControlNode}, x ∈ l → csn x ≤ csl l
  | [], h => by cases h
  | y :: l, h => by
    rw [csl]
    rcases List.mem_cons.1 h with rfl | h
    · omega
    · have := csl_mem h
      omega
theorem csl_ix {l : List api_ControlNode} {i : Int} (h0 : 0 ≤ i) (h1 : i < l.length) : csl (ix l i).Then < csl l ∧ csl (ix l i).Else < csl l := by
  have h := csl_mem (ix_mem h0 h1)
  rw [csn_eq] at h
  omega
theorem drop_ix {α : Type} [Inhabited α] {c : List α} {i : Int} (h0 : 0 ≤ i) (h1 : i < c.length) : c.drop i.toNat = ix c i :: c.drop (i + 1).toNat := by
  rw [ix_lt h0 h1, show (i + 1).toNat = i.toNat + 1 by omega]
  exact List.drop_eq_getElem_cons (by omega)
theorem drop_end {α : Type} {c : List α} {i : Int} (h1 : (c.length : Int) ≤ i) : c.drop i.toNat = [] := List.drop_eq_nil_of_le (by omega)
theorem csl_drop {l : List api_ControlNode} {i : Int} (h0 : 0 ≤ i) (h1 : i < l.length) : csl (l.drop i.toNat) = 1 + csl (ix l i).Then + csl (ix l i).Else + csl (l.drop (i + 1).toNat) := by
  rw [drop_ix h0 h1, csl, csn_eq]
mutual
def poN : api_ControlNode → List api_ControlNode
  | ⟨a, b, c, t, e⟩ => ⟨a, b, c, t, e⟩ :: (poL t ++ poL e)
/-- All nodes in preorder. -/
def poL : List api_ControlNode → List api_ControlNode
  | [] => []
  | x :: l => poN x ++ poL l
end
theorem poN_eq (x : api_ControlNode) : poN x = x :: (poL x.Then ++ poL x.Else) := by
  cases x
  rw [poN]
theorem poL_mem {x y : api_ControlNode} : ∀ {l : List api_ControlNode}, x ∈ l → y ∈ poN x → y ∈ poL l
  | [], h, _ => by cases h
  | z :: l, h, hy => by
    rw [poL]
    rcases List.mem_cons.1 h with rfl | h
    · exact List.mem_append_left _ hy
    · exact List.mem_append_right _ (poL_mem h hy)
mutual
theorem poN_len : ∀ (x : api_ControlNode), (poN x).length = csn x
  | ⟨a, b, c, t, e⟩ => by
    rw [poN, csn, List.length_cons, List.length_append, poL_len t, poL_len e]
    omega
theorem poL_len : ∀ (l : List api_ControlNode), (poL l).length = csl l
  | [] => by rw [poL, csl]; rfl
  | x :: l => by rw [poL, csl, List.length_append, poN_len x, poL_len l]
end
mutual
theorem poN_sub : ∀ (x : api_ControlNode), ∀ y ∈ poN x, (∀ z ∈ poN y, z ∈ poN x) ∧ csn y ≤ csn x
  | ⟨a, b, c, t, e⟩ => by
    intro y hy
    rw [poN] at hy
    rcases List.mem_cons.1 hy with rfl | hy
    · exact ⟨fun z hz => hz, Nat.le_refl _⟩
    · rw [poN, csn]
      rcases List.mem_append.1 hy with h | h
      · obtain ⟨h1, h2⟩ := poL_sub t y h
        exact ⟨fun z hz => List.mem_cons_of_mem _ (List.mem_append_left _ (h1 z hz)), by omega⟩
      · obtain ⟨h1, h2⟩ := poL_sub e y h
        exact ⟨fun z hz => List.mem_cons_of_mem _ (List.mem_append_right _ (h1 z hz)), by omega⟩
theorem poL_sub : ∀ (l : List api_ControlNode), ∀ y ∈ poL l, (∀ z ∈ poN y, z ∈ poL l) ∧ csn y ≤ csl l
  | [] => by intro y hy; rw [poL] at hy; cases hy
  | x :: l => by
    intro y hy
    rw [poL] at hy ⊢
    rw [csl]
    rcases List.mem_append.1 hy with h | h
    · obtain ⟨h1, h2⟩ := poN_sub x y h
      exact ⟨fun z hz => List.mem_append_left _ (h1 z hz), by omega⟩
    · obtain ⟨h1, h2⟩ := poL_sub l y h
      exact ⟨fun z hz => List.mem_append_right _ (h1 z hz), by omega⟩
end
def CB (l : List api_ControlNode) : Prop := ∀ y ∈ poL l, y.Cond.length ≤ 40
structure GL (l : List api_ControlNode) : Prop where
  csl : csl l ≤ 1000
  cb : CB l
structure GN (x : api_ControlNode) : Prop where
  csn : csn x ≤ 1000
  cb : ∀ y ∈ poN x, y.Cond.length ≤ 40
theorem GN.cond {x : api_ControlNode} (h : GN x) : x.Cond.length ≤ 40 := h.cb x (by rw [poN_eq]; exact List.mem_cons_self)
theorem GN.thn {x : api_ControlNode} (h : GN x) : GL x.Then := ⟨by have := h.csn; rw [csn_eq] at this; omega, fun y hy => h.cb y (by rw [poN_eq]; exact List.mem_cons_of_mem _ (List.mem_append_left _ hy))⟩
theorem GN.els {x : api_ControlNode} (h : GN x) : GL x.Else := ⟨by have := h.csn; rw [csn_eq] at this; omega, fun y hy => h.cb y (by rw [poN_eq]; exact List.mem_cons_of_mem _ (List.mem_append_right _ hy))⟩
theorem GL.at {l : List api_ControlNode} (h : GL l) {i : Int} (h0 : 0 ≤ i) (h1 : i < l.length) : GN (ix l i) := ⟨by have := csl_mem (ix_mem h0 h1); have := h.csl; omega, fun y hy => h.cb y (poL_mem (ix_mem h0 h1) hy)⟩
theorem len_csl : ∀ (l : List api_ControlNode), l.length ≤ csl l
  | [] => by simp
  | x :: l => by
    have := len_csl l
    rw [Go.Proofs.Ytkgnjpoafilicaa.csl, csn_eq, List.length_cons]
    omega
theorem GL.len {l : List api_ControlNode} (h : GL l) : l.length ≤ 1000 := Nat.le_trans (len_csl l) h.csl
theorem GL.nodes {l : List api_ControlNode} (h : GL l) : ∀ x ∈ poL l, GN x := fun x hx => ⟨by have := (poL_sub l x hx).2; have := h.csl; omega, fun y hy => h.cb y ((poL_sub l x hx).1 y hy)⟩
def control_clone (x : api_ControlNode) : api_ControlNode := x
def control_cloneAll (l : List api_ControlNode) : List api_ControlNode := l
section
variable {σ : Type} (step : api_ControlNode → σ → Bool × σ)
mutual
def preN : api_ControlNode → σ → Bool × σ
  | ⟨a, b, c, t, e⟩, s => if (step ⟨a, b, c, t, e⟩ s).1 = true then (if (preL t (step ⟨a, b, c, t, e⟩ s).2).1 = true then preL e (preL t (step ⟨a, b, c, t, e⟩ s).2).2 else (false, (preL t (step ⟨a, b, c, t, e⟩ s).2).2)) else (false, (step ⟨a, b, c, t, e⟩ s).2)
/-- What a visitor is asked in preorder, until it says no. -/
def preL : List api_ControlNode → σ → Bool × σ
  | [], s => (true, s)
  | x :: l, s => if (preN x s).1 = true then preL l (preN x s).2 else (false, (preN x s).2)
end
theorem preN_eq (x : api_ControlNode) (s : σ) : preN step x s = if (step x s).1 = true then (if (preL step x.Then (step x s).2).1 = true then preL step x.Else (preL step x.Then (step x s).2).2 else (false, (preL step x.Then (step x s).2).2)) else (false, (step x s).2) := by
  cases x
  rw [preN]
theorem preL_nil (s : σ) : preL step [] s = (true, s) := by rw [preL]
theorem preL_cons (x : api_ControlNode) (l : List api_ControlNode) (s : σ) : preL step (x :: l) s = if (preN step x s).1 = true then preL step l (preN step x s).2 else (false, (preN step x s).2) := by rw [preL]
def control_preorder (c : List api_ControlNode) (s : σ) : Bool × σ := preL step c s
end
def slices_Clone__api_Guard_api_Guard_ (x0 : List api_Guard) : List api_Guard := x0
def slices_Clone__api_ExprNode_api_ExprNode_ (x0 : List api_ExprNode) : List api_ExprNode := x0
/-- No node has a long condition. -/
def GU (l : List api_ControlNode) : Prop := ∀ y ∈ poL l, y.Cond.length ≤ 2000000
theorem gu_in {l : List api_ControlNode} (h : GU l) {i : Int} (h0 : 0 ≤ i) (h1 : i < l.length) : ∀ y ∈ poN (ix l i), y.Cond.length ≤ 2000000 := fun y hy => h y (poL_mem (ix_mem h0 h1) hy)
theorem gu_cond {l : List api_ControlNode} (h : GU l) {i : Int} (h0 : 0 ≤ i) (h1 : i < l.length) : (ix l i).Cond.length ≤ 2000000 := gu_in h h0 h1 _ (by rw [poN_eq]; exact List.mem_cons_self)
theorem gu_then {l : List api_ControlNode} (h : GU l) {i : Int} (h0 : 0 ≤ i) (h1 : i < l.length) : GU (ix l i).Then := fun y hy => gu_in h h0 h1 y (by rw [poN_eq]; exact List.mem_cons_of_mem _ (List.mem_append_left _ hy))
theorem gu_else {l : List api_ControlNode} (h : GU l) {i : Int} (h0 : 0 ≤ i) (h1 : i < l.length) : GU (ix l i).Else := fun y hy => gu_in h h0 h1 y (by rw [poN_eq]; exact List.mem_cons_of_mem _ (List.mem_append_right _ hy))
mutual
/-- How much a control flow holds. -/
def btn : api_ControlNode → Nat
  | ⟨_, _, c, t, e⟩ => 1 + c.length + btl t + btl e
def btl : List api_ControlNode → Nat
  | [] => 0
  | x :: l => btn x + btl l
end
theorem btn_eq (x : api_ControlNode) : btn x = 1 + x.Cond.length + btl x.Then + btl x.Else := by
  cases x
  rw [btn]
mutual
theorem cond_btn : ∀ (x : api_ControlNode), ∀ y ∈ poN x, y.Cond.length ≤ btn x
  | ⟨a, b, c, t, e⟩, y, hy => by
    rw [poN] at hy
    rw [btn]
    rcases List.mem_cons.1 hy with rfl | hy
    · simp only; omega
    · rcases List.mem_append.1 hy with h | h
      · have := cond_btl t y h; omega
      · have := cond_btl e y h; omega
theorem cond_btl : ∀ (l : List api_ControlNode), ∀ y ∈ poL l, y.Cond.length ≤ btl l
  | [], y, hy => by rw [poL] at hy; cases hy
  | x :: l, y, hy => by
    rw [poL] at hy
    rw [btl]
    rcases List.mem_append.1 hy with h | h
    · have := cond_btn x y h; omega
    · have := cond_btl l y h; omega
end
theorem gu_of {l : List api_ControlNode} (h : btl l ≤ 1048576) : GU l := fun y hy => by have := cond_btl l y hy; omega
theorem cond_wt : ∀ {l : List api_ExprNode} {es : List PV}, All2 api_ExprNode.t.R l es → l.length ≤ wtL es
  | [], [], _ => by simp
  | a :: l, e :: es, h => by
    obtain ⟨h1, h2⟩ := h
    have := cond_wt h2
    have h0 : e = _ := h1
    subst h0
    simp only [wtL, wt, List.length_cons]
    omega
  | [], _ :: _, h => by simp [All2] at h
  | _ :: _, [], h => by simp [All2] at h
theorem slx_wt {l : List api_ExprNode} {v : PV} (r : (tSl api_ExprNode.t).R l v) : l.length ≤ wt v := by
  obtain ⟨⟨es, he, hl⟩, _⟩ := r
  have := cond_wt hl
  rcases he with ⟨ad, rfl, rfl⟩ | ⟨tg, rfl⟩
  · simp only [wtL] at this; omega
  · simp only [wt]; omega
theorem wtL_sl {v : PV} {es : List PV} (h : IsSl v es) : wtL es ≤ wt v := by
  rcases h with ⟨ad, rfl, rfl⟩ | ⟨tg, rfl⟩
  · simp [wtL]
  · simp [wt]
mutual
theorem btn_wt : ∀ (a : api_ControlNode) (v : PV), api_ControlNode.R a v → btn a ≤ wt v
  | ⟨k, t, c, th, el⟩, v, h => by
    simp only [api_ControlNode.R] at h
    obtain ⟨c2, c3, c4, h0, h2, h3, h4⟩ := h
    subst h0
    obtain ⟨⟨es3, i3, l3⟩, _⟩ := h3
    obtain ⟨⟨es4, i4, l4⟩, _⟩ := h4
    have k2 := slx_wt h2
    have k3 := btl_wt th es3 l3
    have k4 := btl_wt el es4 l4
    have j3 := wtL_sl i3
    have j4 := wtL_sl i4
    simp only [btn, wt, wtL]
    omega
theorem btl_wt : ∀ (l : List api_ControlNode) (es : List PV), api_ControlNode.Rl l es → btl l ≤ wtL es
  | [], [], _ => by simp [btl]
  | a :: l, e :: es, h => by
    simp only [api_ControlNode.Rl] at h
    have := btn_wt a e h.1
    have := btl_wt l es h.2
    simp only [btl, wtL]
    omega
  | [], _ :: _, h => by simp [api_ControlNode.Rl] at h
  | _ :: _, [], h => by simp [api_ControlNode.Rl] at h
end
theorem bt_le {x : api_Program} {v : PV} (r : api_Program.t.R x v) : btl x.Control ≤ wt v := by
  obtain ⟨c1, c2, c3, c4, c5, c6, c7, c8, h0, _, _, _, _, _, _, h7, _⟩ := r
  obtain ⟨⟨es, he, hl⟩, _⟩ := h7
  have k := btl_wt _ _ ((api_ControlNode.Rl_eq _ _).symm ▸ hl)
  have j := wtL_sl he
  subst h0
  simp only [wt, wtL]
  omega
end Go.Proofs.Ytkgnjpoafilicaa
