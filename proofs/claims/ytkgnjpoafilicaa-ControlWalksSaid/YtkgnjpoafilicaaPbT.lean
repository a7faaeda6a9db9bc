/-
  Plain library, part 27: code carried out by rules, one for each operation; the temporaries az0 a list.
-/
import Derived.Test.YtkgnjpoafilicaaPbLaw
set_option linter.unusedVariables false
set_option linter.unusedSimpArgs false
namespace Go.Pb
open Go Go.RowKit

abbrev TEnv := List (Nat × PV)
def look (t : Nat) : TEnv → Option PV
  | [] => none
  | (k, v) :: r => bif Nat.beq t k then some v else look t r
def Ag (E : TEnv) (T : Nat → PV) : Prop := ∀ t v, look t E = some v → T t = v
def evE (E : TEnv) : Operand → Option PV
  | .tmp t => look t E
  | .const v => some (.ofConst v)
  | .func f => some (.fn (.func f) [] [])
  | .global _ => none
def evL (E : TEnv) : List Operand → Option (List PV)
  | [] => some []
  | o :: r => match evE E o with
    | some a => match evL E r with
      | some l => some (a :: l)
      | none => none
    | none => none
theorem evE_ok {E : TEnv} {T : Nat → PV} {o : Operand} {v : PV} (h : Ag E T) (e : evE E o = some v) : ev T o = v := by
  cases o with
  | tmp t => exact h t v e
  | const u => simpa [evE, ev] using e
  | func f => simpa [evE, ev] using e
  | global g => simp [evE] at e
theorem evL_ok {E : TEnv} {T : Nat → PV} (h : Ag E T) : ∀ {os : List Operand} {vs : List PV}, evL E os = some vs → os.map (ev T) = vs
  | [], vs, e => by simp [evL] at e; simp [e]
  | o :: os, vs, e => by
    simp only [evL] at e
    split at e
    · rename_i a ha
      split at e
      · rename_i l hl
        simp only [Option.some.injEq] at e
        rw [← e, List.map_cons, evE_ok h ha, evL_ok h hl]
      · cases e
    · cases e
theorem beq_ne {t d : Nat} (h : ¬t = d) : Nat.beq t d = false := by
  cases hb : Nat.beq t d with
  | false => rfl
  | true => exact absurd (Nat.eq_of_beq_eq_true hb) h
theorem Ag.put {E : TEnv} {T : Nat → PV} (h : Ag E T) (d : Nat) (v : PV) : Ag ((d, v) :: E) (updO T (some d) v) := by
  intro t u e
  simp only [look] at e
  by_cases ht : t = d
  · subst ht
    simp only [Nat.beq_refl, cond_true, Option.some.injEq] at e
    simp [updO, upd, e]
  · have : Nat.beq t d = false := beq_ne ht
    simp only [this, cond_false] at e
    simp [updO, upd, ht, h t u e]
theorem Ag.nil (T : Nat → PV) : Ag [] T := fun t v e => by simp [look] at e
/-- The second row is told by the first. -/
def SubE (E E0 : TEnv) : Prop := ∀ t v, look t E0 = some v → look t E = some v
theorem sub_nil (E : TEnv) : SubE E [] := fun t v e => by simp [look] at e
theorem sub_cons {E E0 : TEnv} {d : Nat} {v : PV} (h : look d E = some v) (k : SubE E E0) : SubE E ((d, v) :: E0) := by
  intro t u e
  simp only [look] at e
  by_cases ht : t = d
  · subst ht
    simp only [Nat.beq_refl, cond_true, Option.some.injEq] at e
    rw [h, e]
  · have : Nat.beq t d = false := beq_ne ht
    simp only [this, cond_false] at e
    exact k t u e
theorem Ag.sub {E E0 : TEnv} {T : Nat → PV} (h : Ag E T) (s : SubE E E0) : Ag E0 T := fun t v e => h t v (s t v e)

section
variable {P : Program} {S : List Fr} {Q : Post} {E E0 : TEnv} {h : Heap}
def RC (P : Program) (c : AC) (S : List Fr) (Q : Post) (E : TEnv) (h : Heap) : Prop := ∀ T, Ag E T → runC P c S Q T h
def RD (P : Program) (l : List AOper) (S : List Fr) (Q : Post) (E : TEnv) (h : Heap) : Prop := ∀ T, Ag E T → runD P l S Q T h
def PN (P : Program) (S : List Fr) (Q : Post) (E : TEnv) (h : Heap) : Prop := ∀ T, Ag E T → popN P S Q T h
def PX (P : Program) (id : Nat) (S : List Fr) (Q : Post) (E : TEnv) (h : Heap) : Prop := ∀ T, Ag E T → popX P id S Q T h
def again (P : Program) (b : AC) (S : List Fr) (Q : Post) : Fr := .loop fun T h => runC P (.loop b) S Q T h

theorem rc_weak {c : AC} (s : SubE E E0) (k : RC P c S Q E0 h) : RC P c S Q E h := fun T hT => k T (hT.sub s)
theorem rd_weak {l : List AOper} (s : SubE E E0) (k : RD P l S Q E0 h) : RD P l S Q E h := fun T hT => k T (hT.sub s)
theorem pn_weak (s : SubE E E0) (k : PN P S Q E0 h) : PN P S Q E h := fun T hT => k T (hT.sub s)
theorem px_weak {id : Nat} (s : SubE E E0) (k : PX P id S Q E0 h) : PX P id S Q E h := fun T hT => k T (hT.sub s)

theorem rc_skip (k : PN P S Q E h) : RC P .skip S Q E h := k
theorem rc_seq {a b : AC} (k : RC P a (.seq b :: S) Q E h) : RC P (.seq a b) S Q E h := k
theorem rc_region {d : Bool} {al : List AOper} (k : RD P al S Q E h) : RC P (.region d al) S Q E h := fun T hT => .inl (k T hT)
theorem rc_block {id : Nat} {b : AC} (k : RC P b (.blk id :: S) Q E h) : RC P (.block id b) S Q E h := k
theorem rc_scope {b : AC} (k : RC P b (.scope :: S) Q E h) : RC P (.scope b) S Q E h := k
theorem rc_exit {id : Nat} (k : PX P id S Q E h) : RC P (.exit id) S Q E h := k
theorem rc_cond {c : Operand} {a b : AC} {v : Bool} (hc : evE E c = some (vb v)) (h1 : v = true → RC P a S Q E h) (h2 : v = false → RC P b S Q E h) : RC P (.cond c a b) S Q E h := by
  intro T hT
  rw [x_cond, evE_ok hT hc]
  exact t_of (fun e => h1 e T hT) (fun e => h2 e T hT)
theorem rd_nil (k : PN P S Q E h) : RD P [] S Q E h := k
theorem pn_seq {b : AC} (k : RC P b S Q E h) : PN P (.seq b :: S) Q E h := k
theorem pn_blk {id : Nat} (k : PN P S Q E h) : PN P (.blk id :: S) Q E h := k
theorem pn_scope (k : PN P S Q E h) : PN P (.scope :: S) Q E h := k
theorem pn_again {b : AC} (k : RC P (.loop b) S Q E h) : PN P (again P b S Q :: S) Q E h := k
theorem px_blk {id : Nat} (k : PN P S Q E h) : PX P id (.blk id :: S) Q E h := fun T hT => by rw [e_blk]; exact k T hT
theorem px_ne {id id' : Nat} (hne : (id == id') = false) (k : PX P id S Q E h) : PX P id (.blk id' :: S) Q E h := fun T hT => by rw [e_blk_ne _ _ hne]; exact k T hT
theorem px_seq {id : Nat} {b : AC} (k : PX P id S Q E h) : PX P id (.seq b :: S) Q E h := k
theorem px_scope {id : Nat} (k : PX P id S Q E h) : PX P id (.scope :: S) Q E h := k
theorem px_again {id : Nat} {b : AC} {S' : List Fr} {Q' : Post} (k : PX P id S Q E h) : PX P id (again P b S' Q' :: S) Q E h := k

/-- A loop, one turn and then again. -/
theorem loop_unfold {b : AC} {Q : Post} {T : Nat → PV} {h : Heap} (H : wpC P b (thenP (fun T h => wpC P (.loop b) Q T h) Q) T h) : wpC P (.loop b) Q T h := by
  obtain ⟨e, T', h', h1, h2⟩ := wpC_one b H
  have lone : ∀ (e : Exit), (∀ K : (Nat → PV) → Heap → Prop, thenP K Q e = Q e) → Q e T' h' → (∀ Q' : Post, Q' e T' h' → wpC P b Q' T h) → wpC P (.loop b) Q T h := by
    intro e he hq h2
    refine ⟨fun M T₁ h₁ => M = 0 ∧ T₁ = T ∧ h₁ = h, 0, ⟨rfl, rfl, rfl⟩, ?_⟩
    rintro M T₁ h₁ ⟨rfl, rfl, rfl⟩
    refine h2 _ ?_
    rw [he]
    exact hq
  cases e with
  | normal =>
    obtain ⟨I2, N2, hI2, hr2⟩ := h1
    refine ⟨fun N T₁ h₁ => (N = N2 + 1 ∧ T₁ = T ∧ h₁ = h) ∨ (N ≤ N2 ∧ I2 N T₁ h₁), N2 + 1, .inl ⟨rfl, rfl, rfl⟩, ?_⟩
    rintro N₁ T₁ h₁ (⟨rfl, rfl, rfl⟩ | ⟨hle, hI₁⟩)
    · exact h2 _ ⟨N2, by omega, .inr ⟨Nat.le_refl _, hI2⟩⟩
    · obtain ⟨e, Ta, ha, h5, h6⟩ := wpC_one b (hr2 N₁ T₁ h₁ hI₁)
      refine h6 _ ?_
      cases e with
      | normal =>
        obtain ⟨M, hM, hIM⟩ := h5
        exact ⟨M, hM, .inr ⟨by omega, hIM⟩⟩
      | exit id => exact h5
      | goto id => exact h5
      | ret => exact h5
      | panic id => exact h5
      | outgrown => exact h5
  | exit id => exact lone _ (fun _ => rfl) h1 h2
  | goto id => exact lone _ (fun _ => rfl) h1 h2
  | ret => exact lone _ (fun _ => rfl) h1 h2
  | panic id => exact lone _ (fun _ => rfl) h1 h2
  | outgrown => exact lone _ (fun _ => rfl) h1 h2
theorem rc_loop {b : AC} (k : RC P b (again P b S Q :: S) Q E h) : RC P (.loop b) S Q E h := fun T hT => loop_unfold (k T hT)

/-! Operations -/
def OV (P : Program) (op : AOp) (hf : Bool) (E : TEnv) (h : Heap) (v : PV) : Prop := op.kind = 0 ∧ ∀ T, Ag E T → opQ P T (seen hf h) op = some v
def LV (P : Program) (op : AOp) (E : TEnv) (h : Heap) (v : PV) (h' : Heap) : Prop := op.kind = 1 ∧ ∀ T, Ag E T → opL T h op = some (v, h')
def CV (P : Program) (f : Operand) (args : List Operand) (hf : Bool) (E : TEnv) (h : Heap) (v : PV) : Prop := ∀ T, Ag E T → ∃ g az0, callee (ev T f) (args.map (ev T)) = some (g, az0) ∧ CallD P (seen hf h) g az0 v
theorem OV.opd {op : AOp} {hf : Bool} {v : PV} {T : Nat → PV} (H : OV P op hf E h v) (hT : Ag E T) {K : PV → Heap → Prop} (k : K v h) : OpD P op hf T h K := by
  unfold OpD
  rw [H.1]
  exact ⟨v, H.2 T hT, k⟩
theorem LV.opd {op : AOp} {hf : Bool} {v : PV} {h' : Heap} {T : Nat → PV} (H : LV P op E h v h') (hT : Ag E T) {K : PV → Heap → Prop} (k : K v h') : OpD P op hf T h K := by
  unfold OpD
  rw [H.1]
  exact ⟨v, h', H.2 T hT, k⟩
theorem CV.opd {f : Operand} {args : List Operand} {hf : Bool} {v : PV} {T : Nat → PV} (H : CV P f args hf E h v) (hT : Ag E T) {K : PV → Heap → Prop} (k : K v h) : OpD P (.call f args) hf T h K := by
  obtain ⟨g, az0, h1, h2⟩ := H T hT
  exact ⟨g, az0, h1, v, h2, k⟩
section
variable {op : AOp} {hf : Bool} {v : PV} {h' : Heap} {r : List AOper} {d : Nat} {f : Operand} {args : List Operand}
theorem rd_op (H : OV P op hf E h v) (k : RD P r S Q ((d, v) :: E) h) : RD P (⟨some d, op, none, hf⟩ :: r) S Q E h := fun T hT => by
  rw [s_cons]; exact H.opd hT (k _ (hT.put d v))
theorem rd_op0 (H : OV P op hf E h v) (k : RD P r S Q E h) : RD P (⟨none, op, none, hf⟩ :: r) S Q E h := fun T hT => by
  rw [s_cons]; exact H.opd hT (k _ hT)
theorem rd_own (H : LV P op E h v h') (k : RD P r S Q ((d, v) :: E) h') : RD P (⟨some d, op, none, hf⟩ :: r) S Q E h := fun T hT => by
  rw [s_cons]; exact H.opd hT (k _ (hT.put d v))
theorem rd_own0 (H : LV P op E h v h') (k : RD P r S Q E h') : RD P (⟨none, op, none, hf⟩ :: r) S Q E h := fun T hT => by
  rw [s_cons]; exact H.opd hT (k _ hT)
theorem rd_call (H : CV P f args hf E h v) (k : RD P r S Q ((d, v) :: E) h) : RD P (⟨some d, .call f args, none, hf⟩ :: r) S Q E h := fun T hT => by
  rw [s_cons]; exact H.opd hT (k _ (hT.put d v))
theorem rd_call0 (H : CV P f args hf E h v) (k : RD P r S Q E h) : RD P (⟨none, .call f args, none, hf⟩ :: r) S Q E h := fun T hT => by
  rw [s_cons]; exact H.opd hT (k _ hT)

/-- What a place holds whose operation is carried out under a condition. -/
def gp (p : Prop) [Decidable p] (v : PV) : PV := if p then v else .tup []
theorem gp_yes {p : Prop} [Decidable p] (hp : p) (v : PV) : gp p v = v := if_pos hp
theorem gp_no {p : Prop} [Decidable p] (hp : ¬p) (v : PV) : gp p v = .tup [] := if_neg hp
theorem evg {p : Prop} [Decidable p] {o : Operand} {v : PV} (hp : p) (e : evE E o = some (gp p v)) : evE E o = some v := by rw [e, gp_yes hp]
theorem bool_ne {b w : Bool} (h : ¬b = w) : (b == w) = false := by simpa using h

theorem rd_gen {t : Nat} {w b : Bool} (hg : look t E = some (vb b)) (H : b = w → ∀ T, Ag E T → ∀ K : PV → Heap → Prop, K v h → OpD P op hf T h K)
    (k : RD P r S Q ((d, gp (b = w) v) :: E) h) : RD P (⟨some d, op, some (t, w), hf⟩ :: r) S Q E h := by
  intro T hT
  rw [s_guard, hT t _ hg, gF_b]
  by_cases e : b = w
  · rw [show (b == w) = true by simpa using e, g_true]
    refine H e T hT _ ?_
    have := k _ (hT.put d _)
    rwa [gp_yes e] at this
  · rw [bool_ne e, g_false]
    have := k _ (hT.put d _)
    rwa [gp_no e] at this
theorem rd_gen2 {t : Nat} {w b : Bool} {p : Prop} [Decidable p] (hg : look t E = some (gp p (vb b))) (H : p → b = w → ∀ T, Ag E T → ∀ K : PV → Heap → Prop, K v h → OpD P op hf T h K)
    (k : RD P r S Q ((d, gp (p ∧ b = w) v) :: E) h) : RD P (⟨some d, op, some (t, w), hf⟩ :: r) S Q E h := by
  intro T hT
  rw [s_guard, hT t _ hg]
  by_cases hp : p
  · rw [gp_yes hp, gF_b]
    by_cases e : b = w
    · rw [show (b == w) = true by simpa using e, g_true]
      refine H hp e T hT _ ?_
      have := k _ (hT.put d _)
      rwa [gp_yes ⟨hp, e⟩] at this
    · rw [bool_ne e, g_false]
      have := k _ (hT.put d _)
      rwa [gp_no (fun h => e h.2)] at this
  · rw [gp_no hp, gF_u, g_false]
    have := k _ (hT.put d _)
    rwa [gp_no (fun h => hp h.1)] at this
theorem rd_gop {t : Nat} {w b : Bool} (hg : look t E = some (vb b)) (H : b = w → OV P op hf E h v) (k : RD P r S Q ((d, gp (b = w) v) :: E) h) : RD P (⟨some d, op, some (t, w), hf⟩ :: r) S Q E h :=
  rd_gen hg (fun e T hT K hk => (H e).opd hT hk) k
theorem rd_gop2 {t : Nat} {w b : Bool} {p : Prop} [Decidable p] (hg : look t E = some (gp p (vb b))) (H : p → b = w → OV P op hf E h v) (k : RD P r S Q ((d, gp (p ∧ b = w) v) :: E) h) : RD P (⟨some d, op, some (t, w), hf⟩ :: r) S Q E h :=
  rd_gen2 hg (fun hp e T hT K hk => (H hp e).opd hT hk) k
theorem rd_gcall {t : Nat} {w b : Bool} (hg : look t E = some (vb b)) (H : b = w → CV P f args hf E h v) (k : RD P r S Q ((d, gp (b = w) v) :: E) h) : RD P (⟨some d, .call f args, some (t, w), hf⟩ :: r) S Q E h :=
  rd_gen hg (fun e T hT K hk => (H e).opd hT hk) k
theorem rd_gcall2 {t : Nat} {w b : Bool} {p : Prop} [Decidable p] (hg : look t E = some (gp p (vb b))) (H : p → b = w → CV P f args hf E h v) (k : RD P r S Q ((d, gp (p ∧ b = w) v) :: E) h) : RD P (⟨some d, .call f args, some (t, w), hf⟩ :: r) S Q E h :=
  rd_gen2 hg (fun hp e T hT K hk => (H hp e).opd hT hk) k

theorem cv_fn {g : FuncId} {az0 : List PV} (ef : evE E f = some (.fn (.func g) [] [])) (ea : evL E args = some az0) (hc : closedL az0 = true) (hfn : FnR P g az0 v) : CV P f args hf E h v := fun T hT => by
  refine ⟨g, az0, ?_, .inl ⟨hc, hfn⟩⟩
  rw [evE_ok hT ef, evL_ok hT ea, callee_fn]
  simp
theorem cv_clo {g : FuncId} {first cap az0 : List PV} (ef : evE E f = some (.fn (.func g) first cap)) (ea : evL E args = some az0) (hc : closedL (first ++ (az0 ++ cap)) = true) (hfn : FnR P g (first ++ (az0 ++ cap)) v) : CV P f args hf E h v := fun T hT =>
  ⟨g, _, by rw [evE_ok hT ef, evL_ok hT ea, callee_fn], .inl ⟨hc, hfn⟩⟩
end

/-! The quiet ones -/
section
variable {hf : Bool} {x y i c : Operand} {a b v w : PV}
theorem ov_move (ex : evE E x = some a) : OV P (.move x) hf E h a := ⟨rfl, fun T hT => by rw [q_move, evE_ok hT ex]⟩
theorem ov_pick {u : PV} (ec : evE E c = some u) (ex : evE E x = some a) (ey : evE E y = some b) (hp : pickR u a b = some v) : OV P (.pick c x y) hf E h v := ⟨rfl, fun T hT => by rw [q_pick, evE_ok hT ec, evE_ok hT ex, evE_ok hT ey, hp]⟩
theorem ov_bin {op : BinOp} {t : TypeId} (ex : evE E x = some a) (ey : evE E y = some b) (hb : binF P op t x y a b = some v) : OV P (.bin op t x y) hf E h v := ⟨rfl, fun T hT => by rw [q_bin, evE_ok hT ex, evE_ok hT ey, hb]⟩
theorem ov_not {k : Bool} (ex : evE E x = some (vb k)) : OV P (.un .not x) hf E h (vb (!k)) := ⟨rfl, fun T hT => by rw [q_un, evE_ok hT ex, un_not]⟩
theorem ov_un {op : UnOp} (ex : evE E x = some a) (hu : unR op P a = some v) : OV P (.un op x) hf E h v := ⟨rfl, fun T hT => by rw [q_un, evE_ok hT ex, hu]⟩
def convR (P : Program) (s d : TypeId) (v : PV) : Option PV := match toV v with
  | some a => (pureRun P (convert s d a)).map .ofConst
  | none => none
theorem ov_conv {s d : TypeId} (ex : evE E x = some a) (hc : convR P s d a = some v) : OV P (.conv s d x) hf E h v := ⟨rfl, fun T hT => by
  show convR P s d (ev T x) = some v
  rw [evE_ok hT ex, hc]⟩
theorem ov_load {sz : Nat} {agg : Bool} (ex : evE E x = some (.fp a)) (h1 : cnt a = some sz) (h2 : a.isAgg = agg) : OV P (.load sz agg x) hf E h a := ⟨rfl, fun T hT => by rw [q_load, evE_ok hT ex, load_fp h1 h2]⟩
theorem ov_loadh {sz : Nat} {agg : Bool} (ex : evE E x = some a) (hl : loadR (seen hf h) sz agg a = some v) : OV P (.load sz agg x) hf E h v := ⟨rfl, fun T hT => by rw [q_load, evE_ok hT ex, hl]⟩
theorem faddr_fp {off sz : Nat} {agg : Bool} (hf : fieldR off sz agg a = some w) : faddrR off sz agg (.fp a) = some (.fp w) := by
  cases a <;> simp [fieldR] at hf
  simp [faddrR, hf]
theorem ov_faddr {off sz : Nat} {agg : Bool} (ex : evE E x = some (.fp a)) (hw : fieldR off sz agg a = some w) : OV P (.faddr off sz agg x) hf E h (.fp w) := ⟨rfl, fun T hT => by rw [q_faddr, evE_ok hT ex, faddr_fp hw]⟩
theorem ov_faddrO {off sz id ver o : Nat} {agg : Bool} (ex : evE E x = some (.op id ver o)) : OV P (.faddr off sz agg x) hf E h (.op id ver (o + off)) := ⟨rfl, fun T hT => by rw [q_faddr, evE_ok hT ex]; rfl⟩
theorem ov_field {off sz : Nat} {agg : Bool} (ex : evE E x = some a) (hw : fieldR off sz agg a = some w) : OV P (.field off sz agg x) hf E h w := ⟨rfl, fun T hT => by rw [q_field, evE_ok hT ex, hw]⟩
theorem ov_iaddr {sz : Nat} (ex : evE E x = some a) (ei : evE E i = some b) (hi : idxR sz a b = some v) : OV P (.iaddr sz x i) hf E h v := ⟨rfl, fun T hT => by rw [q_iaddr, evE_ok hT ex, evE_ok hT ei, hi]⟩
theorem ov_bi {bu : Builtin} {ats : Array TypeId} {ty : TypeId} {os : List Operand} {vs : List PV} (es : evL E os = some vs) (hb : biF P bu ats ty vs = some v) : OV P (.bi bu ats ty os) hf E h v := ⟨rfl, fun T hT => by rw [q_bi, evL_ok hT es, hb]⟩
theorem ov_extract {vs : List PV} {k : Nat} (ex : evE E x = some (.tup vs)) (hk : vs[k]? = some v) : OV P (.extract x k) hf E h v := ⟨rfl, fun T hT => by rw [q_extract, evE_ok hT ex]; exact hk⟩
theorem ov_box {t : TypeId} {n : Nat} (ex : evE E x = some a) (hc : cnt a = some n) : OV P (.box false t x) hf E h (.fp a) := ⟨rfl, fun T hT => by
  rw [q_boxF, evE_ok hT ex]
  cases a <;> simp [cnt] at hc <;> rfl⟩
theorem ov_bslice {e : TypeId} {sz : Nat} {z : Bool} {os : List Operand} {vs : List PV} (es : evL E os = some vs) (hc : vs.all (fun v => cnt v == some sz) = true) : OV P (.bslice false e sz z os) hf E h (.fs true vs) := ⟨rfl, fun T hT => by
  rw [q_bslice, evL_ok hT es]; simp [bsliceR, hc]⟩
theorem ov_alloc {t : TypeId} {z : Value} {n : Nat} (hc : cnt (PV.ofConst z) = some n) : OV P (.alloc false t z) hf E h (.fp (.ofConst z)) := ⟨rfl, fun T hT => by
  show (PV.ofConst z).cellsOf.map _ = _
  revert hc
  cases PV.ofConst z <;> simp [cnt] <;> simp [PV.cellsOf]⟩
theorem ov_mkFunc {f : Fn} {xs ys : List Operand} {az0 bs : List PV} (ex : evL E xs = some az0) (ey : evL E ys = some bs) : OV P (.mkFunc f xs ys) hf E h (.fn f az0 bs) := ⟨rfl, fun T hT => by rw [q_mkFunc, evL_ok hT ex, evL_ok hT ey]⟩
theorem ov_mkIface {t : TypeId} (ex : evE E x = some a) : OV P (.mkIface t x) hf E h (.ifc t a) := ⟨rfl, fun T hT => by rw [q_mkIface, evE_ok hT ex]⟩
def nilCheckR : PV → Option PV
  | .fp v => some (.fp v)
  | .op id ver off => some (.op id ver off)
  | .fn (.func f) a b => some (.fn (.func f) a b)
  | _ => none
theorem ov_nilCheck (ex : evE E x = some a) (hn : nilCheckR a = some v) : OV P (.nilCheck x) hf E h v := ⟨rfl, fun T hT => by
  show nilCheckR (ev T x) = some v
  rw [evE_ok hT ex, hn]⟩
/-- A record from its parts, the parts told az0 values. -/
def buildV : List PV → List (Nat × Nat × PV) → Option (List PV)
  | zs, [] => some zs
  | zs, (off, sz, o) :: r => match o.cellsOf with
    | some cs => if cs.length = sz ∧ off + sz ≤ zs.length then buildV (spl zs off cs) r else none
    | none => none
def evP (E : TEnv) : List (Nat × Nat × Operand) → Option (List (Nat × Nat × PV))
  | [] => some []
  | (a, b, o) :: r => match evE E o with
    | some v => match evP E r with
      | some l => some ((a, b, v) :: l)
      | none => none
    | none => none
theorem evP_ok {T : Nat → PV} (hT : Ag E T) : ∀ {ps : List (Nat × Nat × Operand)} {vs : List (Nat × Nat × PV)} (zs : List PV), evP E ps = some vs → buildF T zs ps = buildV zs vs
  | [], vs, zs, e => by simp only [evP, Option.some.injEq] at e; subst e; rfl
  | (a, b, o) :: ps, vs, zs, e => by
    simp only [evP] at e
    cases hv : evE E o with
    | none => simp [hv] at e
    | some v =>
      cases hl : evP E ps with
      | none => simp [hv, hl] at e
      | some l =>
        simp only [hv, hl, Option.some.injEq] at e
        subst e
        simp only [buildF, buildV, evE_ok hT hv]
        cases v.cellsOf with
        | none => rfl
        | some cs =>
          simp only
          split
          · exact evP_ok hT _ hl
          · rfl
theorem ov_build {zs : List Value} {ps : List (Nat × Nat × Operand)} {vs : List (Nat × Nat × PV)} {cs : List PV} (es : evP E ps = some vs) (hb : buildV (zs.map .sc) vs = some cs) : OV P (.build zs ps) hf E h (.agg cs) := ⟨rfl, fun T hT => by
  show (buildF T (zs.map PV.sc) ps).map PV.agg = _
  rw [evP_ok hT _ es, hb]; rfl⟩
def indexSR (P : Program) (t : TypeId) (v i : PV) : Option PV := match toV v, toV i with
  | some a, some b => (pureRun P (Instr.index t a b)).map .ofConst
  | _, _ => none
theorem ov_indexS {t : TypeId} (ex : evE E x = some a) (ei : evE E i = some b) (hi : indexSR P t a b = some v) : OV P (.indexS t x i) hf E h v := ⟨rfl, fun T hT => by
  show indexSR P t (ev T x) (ev T i) = some v
  rw [evE_ok hT ex, evE_ok hT ei, hi]⟩
def indexAR (len sz : Nat) (agg : Bool) (v i : PV) : Option PV := match v, i with
    | .agg cs, .sc (.int _ k) => if 0 ≤ k ∧ k < len then fieldOf (k.toNat * sz) sz agg cs else none
    | _, _ => none
theorem ov_indexA {len sz : Nat} {agg : Bool} (ex : evE E x = some a) (ei : evE E i = some b) (hi : indexAR len sz agg a b = some v) : OV P (.indexA len sz agg x i) hf E h v := ⟨rfl, fun T hT => by
  show indexAR len sz agg (ev T x) (ev T i) = some v
  rw [evE_ok hT ex, evE_ok hT ei, hi]⟩
def iaddrAR (len sz : Nat) (agg : Bool) (v i : PV) : Option PV := match v, i with
    | .fp (.agg cs), .sc (.int _ k) => if 0 ≤ k ∧ k < len then (fieldOf (k.toNat * sz) sz agg cs).map .fp else none
    | .op id ver off, .sc (.int _ k) => if 0 ≤ k ∧ k < len then some (.op id ver (off + k.toNat * sz)) else none
    | _, _ => none
theorem ov_iaddrA {len sz : Nat} {agg : Bool} (ex : evE E x = some a) (ei : evE E i = some b) (hi : iaddrAR len sz agg a b = some v) : OV P (.iaddrA len sz agg x i) hf E h v := ⟨rfl, fun T hT => by
  show iaddrAR len sz agg (ev T x) (ev T i) = some v
  rw [evE_ok hT ex, evE_ok hT ei, hi]⟩
def boundR (d : Nat) : Option PV → Option Nat
  | none => some d
  | some (.sc (.int _ n)) => if 0 ≤ n then some n.toNat else none
  | _ => none
def evO (E : TEnv) : Option Operand → Option (Option PV)
  | none => some none
  | some o => match evE E o with
    | some v => some (some v)
    | none => none
theorem evO_ok {T : Nat → PV} (hT : Ag E T) {o : Option Operand} {v : Option PV} (e : evO E o = some v) : o.map (ev T) = v := by
  cases o with
  | none => simpa [evO] using e
  | some o =>
    simp only [evO] at e
    split at e
    · rename_i u hu
      simp only [Option.some.injEq] at e
      rw [← e, Option.map_some, evE_ok hT hu]
    · cases e
theorem boundF_eq {T : Nat → PV} (d : Nat) (o : Option Operand) : boundF T d o = boundR d (o.map (ev T)) := by
  cases o with
  | none => rfl
  | some o =>
    simp only [boundF, Option.map_some]
    cases ev T o <;> simp [boundR] 
    rename_i v
    cases v <;> simp [boundR]
/-- A part of a slice of which nobody writes any more, without a third bound. -/
theorem ov_slice {t : TypeId} {sz l u : Nat} {tight : Bool} {es : List PV} {lo hi : Option Operand} {vl vu : Option PV} (ex : evE E x = some (.fs tight es)) (el : evO E lo = some vl) (eu : evO E hi = some vu)
    (hl : boundR 0 vl = some l) (hu : boundR es.length vu = some u) (h1 : l ≤ u) (h2 : u ≤ es.length) (hc : es.all (fun v => cnt v == some sz) = true) :
    OV P (.slice t sz x lo hi none) hf E h (.fs (tight && (u == es.length)) ((es.drop l).take (u - l))) := ⟨rfl, fun T hT => by
  have e1 : boundF T 0 lo = some l := by rw [boundF_eq, evO_ok hT el, hl]
  have e2 : boundF T es.length hi = some u := by rw [boundF_eq, evO_ok hT eu, hu]
  simp only [opQ, evE_ok hT ex, e1, e2, boundM]
  simp [h1, h2, hc, okMaxF, tightF]⟩
end

/-! The end of a function -/
def QR (P : Program) (rs : List (Tmp × Option (Nat × Bool))) (R : PV → Prop) : Post := retPost P rs fun v h => ∃ r, Deep P h v r ∧ R r
def resE (E : TEnv) : List (Tmp × Option (Nat × Bool)) → Option (List PV)
  | [] => some []
  | (t, none) :: r => match look t E with
    | some v => match resE E r with
      | some l => some (v :: l)
      | none => none
    | none => none
  | _ => none
theorem resE_ok {T : Nat → PV} (hT : Ag E T) : ∀ {rs : List (Tmp × Option (Nat × Bool))} {vs : List PV}, resE E rs = some vs → resV P T h rs = some vs
  | [], vs, e => by simpa [resE, resV] using e
  | (t, none) :: rs, vs, e => by
    simp only [resE] at e
    split at e
    · rename_i v hv
      split at e
      · rename_i l hl
        simp only [Option.some.injEq] at e
        subst e
        simp [resV, resE_ok hT hl, hT t v hv]
      · cases e
    · cases e
  | (t, some _) :: rs, vs, e => by simp [resE] at e
theorem rc_ret {rs : List (Tmp × Option (Nat × Bool))} {R : PV → Prop} {vs : List PV} {r : PV} (e : resE E rs = some vs) (hd : Deep P h (retV vs) r) (hr : R r) : RC P .ret S (QR P rs R) E h := fun T hT => by
  rw [x_ret]
  exact ⟨vs, resE_ok hT e, r, hd, hr⟩
theorem pn_end {rs : List (Tmp × Option (Nat × Bool))} {R : PV → Prop} {vs : List PV} {r : PV} (e : resE E rs = some vs) (hd : Deep P h (retV vs) r) (hr : R r) : PN P [] (QR P rs R) E h := fun T hT => by
  rw [n_nil]
  exact ⟨vs, resE_ok hT e, r, hd, hr⟩

def argE : Nat → List PV → TEnv
  | _, [] => []
  | k, a :: r => (k, a) :: argE (k + 1) r
theorem argE_ag : ∀ (l : List PV) (k : Nat) (T : Nat → PV), (∀ j a, l[j]? = some a → T (k + j) = a) → Ag (argE k l) T
  | [], k, T, _ => Ag.nil T
  | a :: l, k, T, hT => by
    intro t v e
    simp only [argE, look] at e
    by_cases ht : t = k
    · subst ht
      simp only [Nat.beq_refl, cond_true, Option.some.injEq] at e
      have := hT 0 a rfl
      simpa [e] using this
    · have hb : Nat.beq t k = false := beq_ne ht
      simp only [hb, cond_false] at e
      exact argE_ag l (k + 1) T (fun j b hj => by have := hT (j + 1) b (by simpa using hj); rwa [show k + 1 + j = k + (j + 1) by omega]) t v e
/-- **The contract of a function, by its text and the rules.** -/
theorem fnE {f : FuncId} {own : List Tmp} {n np : Nat} {ac : AC} {rs : List (Tmp × Option (Nat × Bool))} (X : FnText P f own n np ac rs) {args : List PV} {R : PV → Prop} (hn : args.length ≤ np)
    (H : RC P ac [] (QR P rs R) (argE 0 args) ⟨0, []⟩) : ∃ r, FnR P f args r ∧ R r := by
  refine FnR.mkE X R hn ?_
  exact H (args0 args) (argE_ag args 0 _ fun j a hj => by simp [args0, List.getD_eq_getElem?_getD, hj])
end
end Go.Pb
