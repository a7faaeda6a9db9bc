/-
  Plain library, part 17: code by its text, and the contract of a function.
-/
import Derived.Test.YtfcgnnafaoanfaaPbAnyC
set_option linter.unusedVariables false
set_option linter.unusedSimpArgs false
namespace Go.Pb
open Go Go.RowKit

def compC (P : Program) (own : List Tmp) (n : Nat) : Code → Option AC
  | .skip => some .skip
  | .region _ ops draw => (compOps P own n ops [] 0 ops.toList).bind fun al0 => (compOps P own n ops (bif draw then lateOf ops al0 else []) 0 ops.toList).bind fun al => if draw && !chkDraw ops al then none else some (.region draw al)
  | .seq a b => (compC P own n a).bind fun a' => (compC P own n b).map fun b' => .seq a' b'
  | .cond c a b => (compC P own n a).bind fun a' => (compC P own n b).map fun b' => .cond c a' b'
  | .block id b => (compC P own n b).map fun b' => .block id b'
  | .loop b => (compC P own n b).map fun b' => .loop b'
  | .exit id => some (.exit id)
  | .ret => some .ret
  | .scope b => (compC P own n b).map fun b' => .scope b'
  | .label _ => some .skip
  | _ => none

abbrev Post := Exit → (Nat → PV) → Heap → Prop

def thenP (K : (Nat → PV) → Heap → Prop) (Q : Post) : Post := fun e T h => match e with | .normal => K T h | e => Q e T h
def noGo (Q : Post) : Post := fun e T h => match e with | .goto _ => False | e => Q e T h
def inBlk (id : Nat) (Q : Post) : Post := fun e T h => match e with | .exit id' => if id' = id then Q .normal T h else Q (.exit id') T h | e => Q e T h

/-- What code must meet, by its text. -/
def wpC (P : Program) : AC → Post → (Nat → PV) → Heap → Prop
  | .skip, Q, T, h => Q .normal T h
  | .region _ al, Q, T, h => wpD P al T h (Q .normal)
  | .regionT _, _, _, _ => False
  | .seq a b, Q, T, h => wpC P a (thenP (wpC P b Q) Q) T h
  | .cond c a b, Q, T, h => ∃ v, ev T c = .sc (.bool v) ∧ (v = true → wpC P a Q T h) ∧ (v = false → wpC P b Q T h)
  | .block id b, Q, T, h => wpC P b (inBlk id Q) T h
  | .loop b, Q, T, h => ∃ (I : Nat → (Nat → PV) → Heap → Prop) (N : Nat), I N T h ∧ ∀ N T h, I N T h → wpC P b (thenP (fun T' h' => ∃ M, M < N ∧ I M T' h') Q) T h
  | .exit id, Q, T, h => Q (.exit id) T h
  | .ret, Q, T, h => Q .ret T h
  | .scope b, Q, T, h => wpC P b (noGo Q) T h

section
variable {P : Program} {own : List Tmp} {n : Nat} {w0 : World} {F0 : Nat → Prop}

theorem seq_region {ops : Array Oper} {hfs : List Nat} {Q : Exit → Act → World → Prop} {K : (Nat → PV) → Heap → Prop} {x0 : Cx}
    (hQ : ∀ T' h' y a', K T' h' → RelP P w0 F0 h' y → Ext x0 y → Temps P y n T' a' → Q .normal a' y.w) :
    ∀ (l : List Oper) (k : Nat) (al : List AOper) (T : Nat → PV) (h : Heap) (x : Cx) (a : Act), (∀ j, l[j]? = ops[k + j]?) → compOps P own n ops hfs k l = some al → wpD P al T h K → RelP P w0 F0 h x → Ext x0 x → Temps P x n T a →
      wpOps P ops Q (List.range' k l.length) a x.w
  | [], k, al, T, h, x, a, _, hc, hw, R, E, hT => by
    simp only [compOps, Option.some.injEq] at hc
    subst hc
    simpa [wpOps] using hQ T h x a hw R E hT
  | o :: l, k, al, T, h, x, a, hl, hc, hw, R, E, hT => by
    simp only [compOps, Option.bind_eq_bind, Option.bind_eq_some_iff, Option.pure_def, Option.some.injEq] at hc
    obtain ⟨ao, hao, bl, hbl, rfl⟩ := hc
    obtain ⟨hdst, hcop, hdn, hgd⟩ := compO_spec hao
    have ho : ops[k]? = some o := by simpa using (hl 0).symm
    have hl' : ∀ j, l[j]? = ops[k + 1 + j]? := fun j => by have := hl (j + 1); simpa [Nat.add_assoc, Nat.add_comm 1 j] using this
    simp only [List.length_cons, List.range'_succ]
    rw [wpOps_cons]
    unfold wpOp
    rw [ho]
    simp only [wpD] at hw
    obtain ⟨g, hg, h1, h2⟩ := hw
    have hwant := wanted_of hT hgd hg
    cases g with
    | true =>
      simp only [hwant, if_true]
      refine .inl ?_
      obtain ⟨r, h', hk, hwp⟩ := OpD_sound R hT hcop (h1 rfl) (Q := Q)
      refine Oper.wp_mono (fun a' w' hh => ?_) hwp
      obtain ⟨v, y, rfl, rfl, R', E', hv⟩ := hh
      have hT' := (hT.ext E').put (d := o.dst) hdn hv
      rw [← hdst] at hT'
      rw [← hdst]
      exact seq_region hQ l (k + 1) bl _ h' y _ hl' hbl hk R' (E.trans E') hT'
    | false =>
      simp only [hwant, Bool.false_eq_true, if_false]
      have hv : VR P x (.tup []) undef := ⟨[], rfl, by simp [VRV]⟩
      have hT' := hT.put (d := o.dst) hdn hv
      rw [← hdst] at hT'
      rw [← hdst]
      exact seq_region hQ l (k + 1) bl _ h x _ hl' hbl (h2 rfl) R E hT'

theorem region_sound {ops : Array Oper} {hfs : List Nat} {id : Nat} {draw : Bool} {al : List AOper} {Q : Exit → Act → World → Prop} {K : (Nat → PV) → Heap → Prop} {T : Nat → PV} {h : Heap} {x : Cx} {a : Act}
    (hm : P.follows .mixedOrders = true) (hc : compOps P own n ops hfs 0 ops.toList = some al) (hchk : draw = true → chkDraw ops al = true) (hw : wpD P al T h K) (R : RelP P w0 F0 h x) (hT : Temps P x n T a)
    (hQ : ∀ T' h' y a', K T' h' → RelP P w0 F0 h' y → Ext x y → Temps P y n T' a' → Q .normal a' y.w) : (Code.region id ops draw).wp P Q a x.w := by
  cases draw with
  | false =>
    refine wp_region ?_
    have := seq_region (x0 := x) hQ ops.toList 0 al T h x a (fun j => by simp) hc hw R (Ext.refl x) hT
    rwa [Array.length_toList, ← List.range_eq_range'] at this
  | true =>
    refine wp_region_any hm ?_
    obtain ⟨ss, T', h', hrun, hk⟩ := runD_of_wpD al T h K hw
    obtain ⟨e1, e2, e3⟩ := runD_spec al T h ss T' h' hrun
    have X : Text P own n ops al ss T h := ⟨⟨hfs, hc⟩, hchk rfl, e3⟩
    obtain ⟨e, he1, he2, he3, he4⟩ := next_bar al al.length 0 (by omega)
    have gd := Grow.drew x
    have Rd := R.grow gd
    have Ed := R.ext_of_grow gd
    have hrep : ∀ j, (Array.replicate ops.size false).getD j false = false := fun j => by
      simp only [Array.getD_eq_getD_getElem?, Array.getElem?_replicate]
      split <;> rfl
    have M : Mid P n ops al ss T h w0 F0 x (Array.replicate ops.size false) e a ⟨x.w.drew, x.F, x.J⟩ := by
      refine ⟨by simp, (fun j o hj => absurd hj (by rw [hrep]; simp)), he2, he3, fun j hj hb => ?_, fun j _ => hrep j, X.onward (j := 0) (k := e) (Nat.zero_le _) he2 he4 Rd, fun j hj _ id ver h1 h2 => ?_, fun j hj _ b hb => (X.grow (j := j + 1) (k := e) (by omega) he2 fun m h1 h2 => he4 m (Nat.zero_le _) h2).1 _ _ hb, ?_, Ed⟩
      · have := he4 j (Nat.zero_le _) hj; rw [hb] at this; cases this
      · exact Rd.fresh id ver (Nat.le_trans (X.nv (j := 0) (k := j) (Nat.zero_le _) (by omega)) h1)
      · rw [TT_all (e := 0) (Nat.zero_le _) (fun j hj => by omega) fun j _ _ => hrep j]
        exact hT.ext Ed
    have hQ' : ∀ a y, RelP P w0 F0 (hOf h ss al.length) y → Ext x y → Temps P y n (TT al ss allD T al.length) a → Q .normal a y.w := by
      intro a y R' E' hT'
      rw [← e2] at R'
      rw [← e1] at hT'
      exact hQ T' h' y a hk R' E' hT'
    refine Mid.any X hQ' ops.size _ e a _ M ?_
    unfold leftOver
    exact Nat.le_trans (List.length_filter_le _ _) (by simp)

theorem loop_any {c : Code} {Q : Exit → Act → World → Prop} (S : Nat → Act → World → Prop) (round : ∀ N a w, S N a w → c.wp P (Exit.then (fun a' w' => ∃ M, M < N ∧ S M a' w') Q) a w) :
    ∀ N a w, S N a w → (Code.loop c).wp P Q a w := by
  intro N a w hS b k cs
  have key : ∀ N a w, S N a w → ∃ e a' w', Q e a' w' ∧ Arrives P (lone (b.at a (.code c :: .inLoop c :: k)) cs w) b k cs e a' w' := by
    intro N
    induction N using Nat.strongRecOn with
    | _ N ih =>
      intro a w hS
      obtain ⟨e, a₁, w₁, hq, harr⟩ := round N a w hS b (.inLoop c :: k) cs
      cases e with
      | normal =>
        obtain ⟨M, hlt, hM⟩ := hq
        obtain ⟨e₂, a₂, w₂, hq₂, harr₂⟩ := ih M hlt a₁ w₁ hM
        exact ⟨e₂, a₂, w₂, hq₂, .of_steps (Steps.trans harr (.one step_inLoop)) harr₂⟩
      | exit id => exact ⟨_, a₁, w₁, hq, .pass (x := .inLoop c) rfl (fun _ _ => .inl (by simp)) harr⟩
      | goto l => exact ⟨_, a₁, w₁, hq, .pass (x := .inLoop c) rfl (fun _ _ => .inl (by simp)) harr⟩
      | ret => exact ⟨_, a₁, w₁, hq, .pass (x := .inLoop c) rfl (fun _ _ => .inl (by simp)) harr⟩
      | panic ch => exact ⟨_, a₁, w₁, hq, .pass (x := .inLoop c) rfl (fun _ _ => .inl (by simp)) harr⟩
      | outgrown => exact ⟨_, a₁, w₁, hq, .pass (x := .inLoop c) rfl (fun _ _ => .inl (by simp)) harr⟩
  obtain ⟨e, a', w', hq, harr⟩ := key N a w hS
  exact ⟨e, a', w', hq, .of_steps (.one step_loop) harr⟩

/-- The post of our kind, as the model's. -/
def QC (P : Program) (n : Nat) (w0 : World) (F0 : Nat → Prop) (x : Cx) (Q : Post) : Exit → Act → World → Prop :=
  fun e a' w' => ∃ T' h' y, y.w = w' ∧ Q e T' h' ∧ RelP P w0 F0 h' y ∧ Ext x y ∧ Temps P y n T' a'

theorem QC.weak {x y : Cx} {Q : Post} {e : Exit} {a : Act} {w : World} (E : Ext x y) (h : QC P n w0 F0 y Q e a w) : QC P n w0 F0 x Q e a w := by
  obtain ⟨T', h', z, h1, h2, h3, h4, h5⟩ := h
  exact ⟨T', h', z, h1, h2, h3, E.trans h4, h5⟩

/-- **Code.** -/
theorem wpC_sound (hm : P.follows .mixedOrders = true) : ∀ (c : Code) (ac : AC) (Q : Post) (T : Nat → PV) (h : Heap) (x : Cx) (a : Act), compC P own n c = some ac → wpC P ac Q T h → RelP P w0 F0 h x → Temps P x n T a → c.wp P (QC P n w0 F0 x Q) a x.w := by
  intro c
  induction c with
  | skip =>
    intro ac Q T h x a hc hw R hT
    simp only [compC, Option.some.injEq] at hc
    subst hc
    exact wp_skip ⟨T, h, x, rfl, hw, R, Ext.refl x, hT⟩
  | region id ops draw =>
    intro ac Q T h x a hc hw R hT
    simp only [compC, Option.bind_eq_some_iff] at hc
    obtain ⟨al0, _, al, hal, hc⟩ := hc
    split at hc
    · cases hc
    · rename_i hd
      simp only [Option.some.injEq] at hc
      subst hc
      refine region_sound hm hal (fun e => ?_) hw R hT fun T' h' y a' hk R' E hT' => ⟨T', h', y, rfl, hk, R', E, hT'⟩
      subst e
      simpa using hd
  | seq c1 c2 ih1 ih2 =>
    intro ac Q T h x a hc hw R hT
    simp only [compC, Option.bind_eq_some_iff, Option.map_eq_some_iff] at hc
    obtain ⟨a1, h1, a2, h2, rfl⟩ := hc
    refine wp_seq (wp_mono (ih1 a1 _ T h x a h1 hw R hT) fun e a' w' hq => ?_)
    obtain ⟨T', h', y, rfl, hq, R', E, hT'⟩ := hq
    cases e with
    | normal => exact wp_mono (ih2 a2 Q T' h' y a' h2 hq R' hT') fun e a w hq => hq.weak E
    | exit id => exact ⟨T', h', y, rfl, hq, R', E, hT'⟩
    | goto l => exact ⟨T', h', y, rfl, hq, R', E, hT'⟩
    | ret => exact ⟨T', h', y, rfl, hq, R', E, hT'⟩
    | panic ch => exact ⟨T', h', y, rfl, hq, R', E, hT'⟩
    | outgrown => exact ⟨T', h', y, rfl, hq, R', E, hT'⟩
  | cond cc c1 c2 ih1 ih2 =>
    intro ac Q T h x a hc hw R hT
    simp only [compC, Option.bind_eq_some_iff, Option.map_eq_some_iff] at hc
    obtain ⟨a1, h1, a2, h2, rfl⟩ := hc
    obtain ⟨v, hv, ht, hf⟩ := hw
    have he := hT.ev cc
    rw [hv] at he
    refine wp_cond_split (t := v) (sc_eq he) (fun e => ih1 a1 Q T h x a h1 (ht e) R hT) fun e => ih2 a2 Q T h x a h2 (hf e) R hT
  | block id c ih =>
    intro ac Q T h x a hc hw R hT
    simp only [compC, Option.map_eq_some_iff] at hc
    obtain ⟨a1, h1, rfl⟩ := hc
    refine wp_block (wp_mono (ih a1 _ T h x a h1 hw R hT) fun e a' w' hq => ?_)
    obtain ⟨T', h', y, rfl, hq, R', E, hT'⟩ := hq
    cases e with
    | exit id' =>
      simp only [inBlk] at hq
      simp only [Exit.inBlock]
      split
      · rename_i e; rw [if_pos e] at hq; exact ⟨T', h', y, rfl, hq, R', E, hT'⟩
      · rename_i e; rw [if_neg e] at hq; exact ⟨T', h', y, rfl, hq, R', E, hT'⟩
    | normal => exact ⟨T', h', y, rfl, hq, R', E, hT'⟩
    | goto l => exact ⟨T', h', y, rfl, hq, R', E, hT'⟩
    | ret => exact ⟨T', h', y, rfl, hq, R', E, hT'⟩
    | panic ch => exact ⟨T', h', y, rfl, hq, R', E, hT'⟩
    | outgrown => exact ⟨T', h', y, rfl, hq, R', E, hT'⟩
  | loop c ih =>
    intro ac Q T h x a hc hw R hT
    simp only [compC, Option.map_eq_some_iff] at hc
    obtain ⟨a1, h1, rfl⟩ := hc
    obtain ⟨I, N, hI, hround⟩ := hw
    refine loop_any (fun N a' w' => ∃ T' h' y, y.w = w' ∧ I N T' h' ∧ RelP P w0 F0 h' y ∧ Ext x y ∧ Temps P y n T' a') ?_ N a x.w ⟨T, h, x, rfl, hI, R, Ext.refl x, hT⟩
    rintro N a' w' ⟨T', h', y, rfl, hI', R', E', hT'⟩
    refine wp_mono (ih a1 _ T' h' y a' h1 (hround N T' h' hI') R' hT') fun e a2 w2 hq => ?_
    obtain ⟨T2, h2, z, rfl, hq, R2, E2, hT2⟩ := hq
    cases e with
    | normal =>
      obtain ⟨M, hlt, hM⟩ := hq
      exact ⟨M, hlt, T2, h2, z, rfl, hM, R2, E'.trans E2, hT2⟩
    | exit id => exact ⟨T2, h2, z, rfl, hq, R2, E'.trans E2, hT2⟩
    | goto l => exact ⟨T2, h2, z, rfl, hq, R2, E'.trans E2, hT2⟩
    | ret => exact ⟨T2, h2, z, rfl, hq, R2, E'.trans E2, hT2⟩
    | panic ch => exact ⟨T2, h2, z, rfl, hq, R2, E'.trans E2, hT2⟩
    | outgrown => exact ⟨T2, h2, z, rfl, hq, R2, E'.trans E2, hT2⟩
  | exit id =>
    intro ac Q T h x a hc hw R hT
    simp only [compC, Option.some.injEq] at hc
    subst hc
    exact wp_exit ⟨T, h, x, rfl, hw, R, Ext.refl x, hT⟩
  | ret =>
    intro ac Q T h x a hc hw R hT
    simp only [compC, Option.some.injEq] at hc
    subst hc
    exact wp_ret ⟨T, h, x, rfl, hw, R, Ext.refl x, hT⟩
  | scope c ih =>
    intro ac Q T h x a hc hw R hT
    simp only [compC, Option.map_eq_some_iff] at hc
    obtain ⟨a1, h1, rfl⟩ := hc
    refine wp_scope_straight (wp_mono (ih a1 _ T h x a h1 hw R hT) fun e a' w' hq => ?_)
    obtain ⟨T', h', y, rfl, hq, R', E, hT'⟩ := hq
    cases e with
    | goto l => exact hq.elim
    | normal => exact ⟨T', h', y, rfl, hq, R', E, hT'⟩
    | exit id => exact ⟨T', h', y, rfl, hq, R', E, hT'⟩
    | ret => exact ⟨T', h', y, rfl, hq, R', E, hT'⟩
    | panic ch => exact ⟨T', h', y, rfl, hq, R', E, hT'⟩
    | outgrown => exact ⟨T', h', y, rfl, hq, R', E, hT'⟩
  | label l =>
    intro ac Q T h x a hc hw R hT
    simp only [compC, Option.some.injEq] at hc
    subst hc
    exact wp_label ⟨T, h, x, rfl, hw, R, Ext.refl x, hT⟩
  | _ =>
    intro ac Q T h x a hc hw R hT
    simp [compC] at hc

/-! A function -/
def compRes (P : Program) : List ResultVar → Option (List (Tmp × Option (Nat × Bool)))
  | [] => some []
  | .tmp t :: r => (compRes P r).map fun l => (t, none) :: l
  | .cell a t :: r => (P.info? t).bind fun i => (P.underlying t).bind fun d => if aggD d = false ∧ i.size ≠ 1 then none else (compRes P r).map fun l => (a, some (i.size, aggD d)) :: l

def resV (P : Program) (T : Nat → PV) (h : Heap) : List (Tmp × Option (Nat × Bool)) → Option (List PV)
  | [] => some []
  | (t, none) :: r => (resV P T h r).map fun l => T t :: l
  | (t, some (sz, agg)) :: r => (opQ P T h (.load sz agg (.tmp t))).bind fun v => (resV P T h r).map fun l => v :: l

def retV : List PV → PV
  | [v] => v
  | vs => .tup vs

/-- A function's text, told in our words. -/
structure FnText (P : Program) (f : FuncId) (own : List Tmp) (n np : Nat) (ac : AC) (rs : List (Tmp × Option (Nat × Bool))) : Prop where
  enters : Enters P f
  follows : P.follows .mixedOrders = true
  text : ∃ fn c, P.funcs[f]? = some fn ∧ fn.body = some c ∧ fn.ntmps = n ∧ np ≤ n ∧ compC P own n c = some ac ∧ compRes P fn.results.toList = some rs

def args0 (args : List PV) : Nat → PV := fun t => args.getD t (.tup [])

def retPost (P : Program) (rs : List (Tmp × Option (Nat × Bool))) (K : PV → Heap → Prop) : Post := fun e T h =>
  match e with
  | .normal | .ret => ∃ vs, resV P T h rs = some vs ∧ K (retV vs) h
  | _ => False

theorem load_sound {h : Heap} {x : Cx} {T : Nat → PV} {a : Act} {t : Tmp} {ty : TypeId} {d : TypeDesc} {i : TypeInfo} {r : PV} (R : RelP P w0 F0 h x) (hT : Temps P x n T a) (hi : P.info? ty = some i) (hd : P.underlying ty = some d)
    (h1 : ¬ (aggD d = false ∧ i.size ≠ 1)) (hq : opQ P T h (.load i.size (aggD d) (.tmp t)) = some r) :
    ∃ v, (do loadVar ty (← asAddr (a.tmps.getD t undef)) : Sem Value).run P x.w = .ok v x.w ∧ VR P x r v := by
  let o : Oper := { dst := none, op := .load ty (.tmp t), type := 0, pos := "", after := #[], guard := none }
  have hc : compOp P [] o.dst o.type (.load ty (.tmp t)) = some (.load i.size (aggD d) (.tmp t)) := by
    simp only [compOp, hi, hd, Option.bind_eq_bind, Option.bind_some]
    rw [if_neg h1]
    rfl
  obtain ⟨v, y, hr, g, hv⟩ := good_load (own := []) R hT (o := o) rfl hc hq
  have hex : (execOp a.eval o) = (do let u ← Instr.loadAt ty (a.tmps.getD t undef); pure (.value u)) := rfl
  rw [hex] at hr
  have hp : ∃ ad, a.tmps.getD t undef = .pointer (some ad) := by
    have ht := hT.at_ t
    simp only [opQ, ev] at hq
    split at hq
    · rename_i v' hv'
      rw [hv'] at ht
      simp only [VR, AsVal, PV.isAgg, VRC, List.cons.injEq, and_true] at ht
      obtain ⟨b, off, xs, e, _⟩ := ht
      exact ⟨_, e⟩
    · rename_i id ver off hv'
      rw [hv'] at ht
      simp only [VR, AsVal, PV.isAgg, VRC, List.cons.injEq, and_true] at ht
      obtain ⟨b, _, e⟩ := ht
      exact ⟨_, e⟩
    · cases hq
  obtain ⟨ad, had⟩ := hp
  rw [had] at hr ⊢
  simp only [Instr.loadAt, Instr.sureAddr, asAddr, Sem.run_bind, Sem.run_pure, Result.andThen_ok] at hr ⊢
  cases hl : (loadVar ty ad).run P x.w with
  | ok u w' =>
    rw [hl] at hr
    simp only [Result.andThen_ok, Result.ok.injEq, Next.value.injEq] at hr
    obtain ⟨rfl, hw⟩ := hr
    -- a load leaves the world alone
    have hT' := hT.ev (.tmp t)
    have key : ∃ u', (loadVar ty ad).run P x.w = .ok u' x.w ∧ VR P x r u' := by
      have hq' := hq
      simp only [opQ, ev] at hq'
      have ht := hT.at_ t
      rw [had] at ht
      have h1' : aggD d = false → i.size = 1 := fun e => by
        by_cases e1 : i.size = 1
        · exact e1
        · exact absurd ⟨e, e1⟩ h1
      split at hq'
      · rename_i v' hv'
        split at hq'
        · rename_i hcv
          simp only [Option.some.injEq] at hq'
          subst hq'
          rw [hv'] at ht
          simp only [VR, AsVal, PV.isAgg, VRC, List.cons.injEq, and_true, Value.pointer.injEq, Option.some.injEq] at ht
          obtain ⟨b, off, xs, rfl, hF, hcs, hr2⟩ := ht
          exact ⟨_, run_loadVar hd hi hcs (cnt_length hr2 hcv.1) h1', VR_of_VRC hr2 ⟨_, hcv.1⟩ hcv.2⟩
        · cases hq'
      · rename_i id ver off hv'
        rw [hv'] at ht
        simp only [VR, AsVal, PV.isAgg, VRC, List.cons.injEq, and_true, Value.pointer.injEq, Option.some.injEq] at ht
        obtain ⟨b, hj, rfl⟩ := ht
        split at hq'
        · rename_i ver' ty' mt cs hb
          split at hq'
          · rename_i hver
            subst hver
            obtain ⟨cur, hcur, hl2, hvr⟩ := own_cells R hb hj
            unfold fieldOf at hq'
            split at hq'
            · rename_i hsz
              obtain ⟨hr2, ha⟩ := VR_mkV (VRL_seg hl2 hvr off i.size hsz) hq'
              have hxl : ((cur.toList.drop off).take i.size).length = i.size := by simp; omega
              exact ⟨_, run_loadVar hd hi (cellsAt_row hcur off i.size) hxl h1', hr2⟩
            · cases hq'
          · cases hq'
        · cases hq'
      · cases hq'
    obtain ⟨u', hu', hr2⟩ := key
    rw [hl] at hu'
    simp only [Result.ok.injEq] at hu'
    obtain ⟨rfl, rfl⟩ := hu'
    exact ⟨_, rfl, hr2⟩
  | halt hh w' => rw [hl] at hr; simp at hr

def resOne (tmps : Array Value) : ResultVar → Sem Value
  | .tmp t => pure (tmps.getD t undef)
  | .cell p t => do loadVar t (← asAddr (tmps.getD p undef))

theorem results_eq (fn : Func) (tmps : Array Value) : results fn tmps = (do let vs ← fn.results.mapM (resOne tmps); pure (if h : vs.size = 1 then vs[0] else .tuple vs)) := by
  unfold results
  congr 1

theorem resV_sound {h : Heap} {x : Cx} {T : Nat → PV} {a : Act} (R : RelP P w0 F0 h x) (hT : Temps P x n T a) : ∀ (l : List ResultVar) (rs : List (Tmp × Option (Nat × Bool))) (vs : List PV), compRes P l = some rs → resV P T h rs = some vs →
    ∃ us, (l.mapM (resOne a.tmps) : Sem (List Value)).run P x.w = .ok us x.w ∧ VRV P x vs us
  | [], rs, vs, hc, hr => by
    simp only [compRes, Option.some.injEq] at hc
    subst hc
    simp only [resV, Option.some.injEq] at hr
    subst hr
    exact ⟨[], by simp, by simp [VRV]⟩
  | .tmp t :: l, rs, vs, hc, hr => by
    simp only [compRes, Option.map_eq_some_iff] at hc
    obtain ⟨rs', hrs, rfl⟩ := hc
    simp only [resV, Option.map_eq_some_iff] at hr
    obtain ⟨vs', hvs, rfl⟩ := hr
    obtain ⟨us, hu, hv⟩ := resV_sound R hT l rs' vs' hrs hvs
    exact ⟨a.tmps.getD t undef :: us, by simp only [List.mapM_cons, resOne, Sem.run_bind, Sem.run_pure, Result.andThen_ok, hu], by simp only [VRV]; exact ⟨hT.at_ t, hv⟩⟩
  | .cell p t :: l, rs, vs, hc, hr => by
    simp only [compRes, Option.bind_eq_some_iff] at hc
    obtain ⟨i, hi, d, hd, hc⟩ := hc
    split at hc
    · cases hc
    rename_i h1
    simp only [Option.map_eq_some_iff] at hc
    obtain ⟨rs', hrs, rfl⟩ := hc
    simp only [resV, Option.bind_eq_some_iff, Option.map_eq_some_iff] at hr
    obtain ⟨v, hq, vs', hvs, rfl⟩ := hr
    obtain ⟨us, hu, hv⟩ := resV_sound R hT l rs' vs' hrs hvs
    obtain ⟨u, hl, hv2⟩ := load_sound R hT hi hd h1 hq
    refine ⟨u :: us, ?_, by simp only [VRV]; exact ⟨hv2, hv⟩⟩
    simp only [List.mapM_cons, resOne, Sem.run_bind] at hl ⊢
    rw [hl]
    simp only [Result.andThen_ok, hu, Sem.run_bind, Sem.run_pure]

theorem VRV_getD {x : Cx} : ∀ {vs : List PV} {us : List Value} (t : Nat), VRV P x vs us → VR P x (vs.getD t (.tup [])) (us.getD t undef)
  | [], [], t, _ => by simp only [List.getD_nil]; exact ⟨[], rfl, by simp [VRV]⟩
  | [], _ :: _, _, h => by simp [VRV] at h
  | _ :: _, [], _, h => by simp [VRV] at h
  | v :: vs, u :: us, 0, h => by simp only [VRV] at h; exact h.1
  | v :: vs, u :: us, t + 1, h => by simp only [VRV] at h; exact VRV_getD t h.2

theorem temps_enter {x : Cx} {args : List PV} {cargs : List Value} (ha : VRV P x args cargs) (hl : args.length ≤ n) :
    Temps P x n (args0 args) { tmps := cargs.toArray ++ Array.replicate (n - cargs.toArray.size) undef, defers := [] } := by
  have hlen := VRV_length ha
  refine ⟨by simp; omega, fun t => ?_, rfl⟩
  have e : (cargs.toArray ++ Array.replicate (n - cargs.toArray.size) undef).getD t undef = cargs.getD t undef := by
    simp only [Array.getD_eq_getD_getElem?, Array.getElem?_append, List.size_toArray, Array.getElem?_replicate, List.getElem?_toArray, List.getD_eq_getElem?_getD]
    by_cases hlt : t < cargs.length
    · simp [hlt]
    · simp only [hlt, if_false]
      rw [List.getElem?_eq_none (by omega)]
      split <;> rfl
  show VR P x _ ((cargs.toArray ++ Array.replicate (n - cargs.toArray.size) undef).getD t undef)
  rw [e]
  exact VRV_getD t ha

/-- What a call gives, own memory and all. -/
theorem body_sound {f : FuncId} {own : List Tmp} {np : Nat} {ac : AC} {rs : List (Tmp × Option (Nat × Bool))} (X : FnText P f own n np ac rs) {args : List PV} {h : Heap} {x : Cx} {cargs : List Value} {K : PV → Heap → Prop}
    (hn : args.length ≤ np) (hw : wpC P ac (retPost P rs K) (args0 args) h) (R : RelP P w0 F0 h x) (ha : VRV P x args cargs) :
    Calls P f cargs.toArray x.w fun e w' => ∃ v r h' y, e = .returned v ∧ y.w = w' ∧ K r h' ∧ RelP P w0 F0 h' y ∧ Ext x y ∧ VR P y r v := by
  obtain ⟨fn, c, hf, hb, hnt, hnp, hc, hres⟩ := X.text
  subst hnt
  refine calls_of_wp hf hb ?_
  refine wp_mono (wpC_sound X.follows c ac _ (args0 args) h x _ hc hw R (temps_enter ha (by omega))) fun e a w hq => ?_
  obtain ⟨T', h', y, rfl, hq, R', E, hT⟩ := hq
  have fin : (∃ vs, resV P T' h' rs = some vs ∧ K (retV vs) h') → a.defers = [] ∧ ∃ v, (results fn a.tmps).run P y.w = .ok v y.w ∧ ∃ v' r h' z, Ending.returned v = .returned v' ∧ z.w = y.w ∧ K r h' ∧ RelP P w0 F0 h' z ∧ Ext x z ∧ VR P z r v' := by
    rintro ⟨vs, hvs, hk⟩
    obtain ⟨us, hu, hv⟩ := resV_sound R' hT fn.results.toList rs vs hres hvs
    refine ⟨hT.defers, ?_⟩
    have hrun : (results fn a.tmps).run P y.w = .ok (if h : us.toArray.size = 1 then us.toArray[0] else .tuple us.toArray) y.w := by
      rw [results_eq, Array.mapM_eq_mapM_toList]
      simp only [Sem.run_bind, Sem.run_map]
      rw [hu]
      simp only [Result.andThen_ok, Sem.run_pure]
    refine ⟨_, hrun, _, retV vs, h', y, rfl, rfl, hk, R', E, ?_⟩
    have hlen := VRV_length hv
    match vs, us, hv with
    | [v], [u], hv => simp only [VRV] at hv; exact hv.1
    | [], [], hv => exact ⟨[], rfl, hv⟩
    | a :: b :: vs, c :: d :: us, hv =>
      have : ¬ (c :: d :: us).toArray.size = 1 := by simp
      rw [dif_neg this]
      exact ⟨_, rfl, hv⟩
    | [], _ :: _, hv => simp [VRV] at hv
    | _ :: _, [], hv => simp [VRV] at hv
    | [_], _ :: _ :: _, hv => simp [VRV] at hv
    | _ :: _ :: _, [_], hv => simp [VRV] at hv
  cases e with
  | normal => exact fin hq
  | ret => exact fin hq
  | exit id => exact hq.elim
  | goto l => exact hq.elim
  | panic ch => exact hq.elim
  | outgrown => exact hq.elim

/-- **The contract of a function, by its text.** -/
theorem FnR.mk {f : FuncId} {own : List Tmp} {np : Nat} {ac : AC} {rs : List (Tmp × Option (Nat × Bool))} (X : FnText P f own n np ac rs) {args : List PV} {r : PV} (hn : args.length ≤ np)
    (hw : wpC P ac (retPost P rs fun v h => Deep P h v r) (args0 args) ⟨0, []⟩) : FnR P f args r := by
  refine ⟨X.enters, fun w F cargs hF ha => ?_⟩
  have R : RelP P w F ⟨0, []⟩ ⟨w, F, noJ⟩ :=
    ⟨Below.refl _ _, hF, fun _ h => h, fun b hb => ⟨hF b hb, .inl hb⟩, (fun id ver b hb => by cases hb), fun _ _ _ => rfl, (fun id id' blk blk' b h1 => by simp at h1), (fun id blk hb => by simp at hb)⟩
  refine (body_sound X hn hw R ha).mono fun e w' hh => ?_
  obtain ⟨v, r', h', y, rfl, rfl, hd, R', E, hv⟩ := hh
  refine ⟨v, ⟨y.w, star w F y.w, noJ⟩, rfl, rfl, ⟨R'.below, rfl, fun b hb => .inl hb, fun b hb => hb⟩, hd.2 h' (Sub.refl h') w F y v R' hv⟩

end
end Go.Pb
