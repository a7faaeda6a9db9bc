/-
  Plain library.
-/
import Derived.Test.YthdnpgpnodgicaaGreatPbLaw
/-
  Plain library, part 27: code carried out by rules, one for each operation; the temporaries as a list.
-/
set_option linter.unusedVariables false
set_option linter.unusedSimpArgs false
namespace Go.Pb
open Go Go.RowKit

abbrev TEnv := List (Nat × PV)
def look (t : Nat) : TEnv → Option PV
  | [] => none
  | (k, v) :: r => bif Nat.beq t k then some v else look t r
def Ag (E : TEnv) (T : Nat → PV) : Prop := ∀ t v, look t E = some v → T t = v
def evE (E : TEnv) : Operand → Option PV
  | .tmp t => look t E
  | .const v => some (.ofConst v)
  | .func f => some (.fn (.func f) [] [])
  | .global _ => none
def evL (E : TEnv) : List Operand → Option (List PV)
  | [] => some []
  | o :: r => match evE E o with
    | some a => match evL E r with
      | some l => some (a :: l)
      | none => none
    | none => none
theorem evE_ok {E : TEnv} {T : Nat → PV} {o : Operand} {v : PV} (h : Ag E T) (e : evE E o = some v) : ev T o = v := by
  cases o with
  | tmp t => exact h t v e
  | const u => simpa [evE, ev] using e
  | func f => simpa [evE, ev] using e
  | global g => simp [evE] at e
theorem evL_ok {E : TEnv} {T : Nat → PV} (h : Ag E T) : ∀ {os : List Operand} {vs : List PV}, evL E os = some vs → os.map (ev T) = vs
  | [], vs, e => by simp [evL] at e; simp [e]
  | o :: os, vs, e => by
    simp only [evL] at e
    split at e
    · rename_i a ha
      split at e
      · rename_i l hl
        simp only [Option.some.injEq] at e
        rw [← e, List.map_cons, evE_ok h ha, evL_ok h hl]
      · cases e
    · cases e
theorem beq_ne {t d : Nat} (h : ¬t = d) : Nat.beq t d = false := by
  cases hb : Nat.beq t d with
  | false => rfl
  | true => exact absurd (Nat.eq_of_beq_eq_true hb) h
theorem Ag.put {E : TEnv} {T : Nat → PV} (h : Ag E T) (d : Nat) (v : PV) : Ag ((d, v) :: E) (updO T (some d) v) := by
  intro t u e
  simp only [look] at e
  by_cases ht : t = d
  · subst ht
    simp only [Nat.beq_refl, cond_true, Option.some.injEq] at e
    simp [updO, upd, e]
  · have : Nat.beq t d = false := beq_ne ht
    simp only [this, cond_false] at e
    simp [updO, upd, ht, h t u e]
theorem Ag.nil (T : Nat → PV) : Ag [] T := fun t v e => by simp [look] at e
/-- The second row is told by the first. -/
def SubE (E E0 : TEnv) : Prop := ∀ t v, look t E0 = some v → look t E = some v
theorem Ag.sub {E E0 : TEnv} {T : Nat → PV} (h : Ag E T) (s : SubE E E0) : Ag E0 T := fun t v e => h t v (s t v e)

section
variable {P : Program} {S : List Fr} {Q : Post} {E E0 : TEnv} {h : Heap}
def RC (P : Program) (c : AC) (S : List Fr) (Q : Post) (E : TEnv) (h : Heap) : Prop := ∀ T, Ag E T → runC P c S Q T h
def RD (P : Program) (l : List AOper) (S : List Fr) (Q : Post) (E : TEnv) (h : Heap) : Prop := ∀ T, Ag E T → runD P l S Q T h
def PN (P : Program) (S : List Fr) (Q : Post) (E : TEnv) (h : Heap) : Prop := ∀ T, Ag E T → popN P S Q T h
def PX (P : Program) (id : Nat) (S : List Fr) (Q : Post) (E : TEnv) (h : Heap) : Prop := ∀ T, Ag E T → popX P id S Q T h
def again (P : Program) (b : AC) (S : List Fr) (Q : Post) : Fr := .loop fun T h => runC P (.loop b) S Q T h

theorem rc_skip (k : PN P S Q E h) : RC P .skip S Q E h := k
theorem rc_seq {a b : AC} (k : RC P a (.seq b :: S) Q E h) : RC P (.seq a b) S Q E h := k
theorem rc_region {d : Bool} {al : List AOper} (k : RD P al S Q E h) : RC P (.region d al) S Q E h := fun T hT => .inl (k T hT)
theorem rc_cond {c : Operand} {a b : AC} {v : Bool} (hc : evE E c = some (vb v)) (h1 : v = true → RC P a S Q E h) (h2 : v = false → RC P b S Q E h) : RC P (.cond c a b) S Q E h := by
  intro T hT
  rw [x_cond, evE_ok hT hc]
  exact t_of (fun e => h1 e T hT) (fun e => h2 e T hT)
theorem rd_nil (k : PN P S Q E h) : RD P [] S Q E h := k
theorem pn_seq {b : AC} (k : RC P b S Q E h) : PN P (.seq b :: S) Q E h := k
/-- A loop, one turn and then again. -/
theorem loop_unfold {b : AC} {Q : Post} {T : Nat → PV} {h : Heap} (H : wpC P b (thenP (fun T h => wpC P (.loop b) Q T h) Q) T h) : wpC P (.loop b) Q T h := by
  obtain ⟨e, T', h', h1, h2⟩ := wpC_one b H
  have lone : ∀ (e : Exit), (∀ K : (Nat → PV) → Heap → Prop, thenP K Q e = Q e) → Q e T' h' → (∀ Q' : Post, Q' e T' h' → wpC P b Q' T h) → wpC P (.loop b) Q T h := by
    intro e he hq h2
    refine ⟨fun M T₁ h₁ => M = 0 ∧ T₁ = T ∧ h₁ = h, 0, ⟨rfl, rfl, rfl⟩, ?_⟩
    rintro M T₁ h₁ ⟨rfl, rfl, rfl⟩
    refine h2 _ ?_
    rw [he]
    exact hq
  cases e with
  | normal =>
    obtain ⟨I2, N2, hI2, hr2⟩ := h1
    refine ⟨fun N T₁ h₁ => (N = N2 + 1 ∧ T₁ = T ∧ h₁ = h) ∨ (N ≤ N2 ∧ I2 N T₁ h₁), N2 + 1, .inl ⟨rfl, rfl, rfl⟩, ?_⟩
    rintro N₁ T₁ h₁ (⟨rfl, rfl, rfl⟩ | ⟨hle, hI₁⟩)
    · exact h2 _ ⟨N2, by omega, .inr ⟨Nat.le_refl _, hI2⟩⟩
    · obtain ⟨e, Ta, ha, h5, h6⟩ := wpC_one b (hr2 N₁ T₁ h₁ hI₁)
      refine h6 _ ?_
      cases e with
      | normal =>
        obtain ⟨M, hM, hIM⟩ := h5
        exact ⟨M, hM, .inr ⟨by omega, hIM⟩⟩
      | exit id => exact h5
      | goto id => exact h5
      | ret => exact h5
      | panic id => exact h5
      | outgrown => exact h5
  | exit id => exact lone _ (fun _ => rfl) h1 h2
  | goto id => exact lone _ (fun _ => rfl) h1 h2
  | ret => exact lone _ (fun _ => rfl) h1 h2
  | panic id => exact lone _ (fun _ => rfl) h1 h2
  | outgrown => exact lone _ (fun _ => rfl) h1 h2
/-! Operations -/
def OV (P : Program) (op : AOp) (hf : Bool) (E : TEnv) (h : Heap) (v : PV) : Prop := op.kind = 0 ∧ ∀ T, Ag E T → opQ P T (seen hf h) op = some v
def LV (P : Program) (op : AOp) (E : TEnv) (h : Heap) (v : PV) (h' : Heap) : Prop := op.kind = 1 ∧ ∀ T, Ag E T → opL T h op = some (v, h')
def CV (P : Program) (f : Operand) (args : List Operand) (hf : Bool) (E : TEnv) (h : Heap) (v : PV) : Prop := ∀ T, Ag E T → ∃ g as, callee (ev T f) (args.map (ev T)) = some (g, as) ∧ CallD P (seen hf h) g as v
theorem OV.opd {op : AOp} {hf : Bool} {v : PV} {T : Nat → PV} (H : OV P op hf E h v) (hT : Ag E T) {K : PV → Heap → Prop} (k : K v h) : OpD P op hf T h K := by
  unfold OpD
  rw [H.1]
  exact ⟨v, H.2 T hT, k⟩
theorem LV.opd {op : AOp} {hf : Bool} {v : PV} {h' : Heap} {T : Nat → PV} (H : LV P op E h v h') (hT : Ag E T) {K : PV → Heap → Prop} (k : K v h') : OpD P op hf T h K := by
  unfold OpD
  rw [H.1]
  exact ⟨v, h', H.2 T hT, k⟩
theorem CV.opd {f : Operand} {args : List Operand} {hf : Bool} {v : PV} {T : Nat → PV} (H : CV P f args hf E h v) (hT : Ag E T) {K : PV → Heap → Prop} (k : K v h) : OpD P (.call f args) hf T h K := by
  obtain ⟨g, as, h1, h2⟩ := H T hT
  exact ⟨g, as, h1, v, h2, k⟩
section
variable {op : AOp} {hf : Bool} {v : PV} {h' : Heap} {r : List AOper} {d : Nat} {f : Operand} {args : List Operand}
theorem rd_op (H : OV P op hf E h v) (k : RD P r S Q ((d, v) :: E) h) : RD P (⟨some d, op, none, hf⟩ :: r) S Q E h := fun T hT => by
  rw [s_cons]; exact H.opd hT (k _ (hT.put d v))
theorem rd_call (H : CV P f args hf E h v) (k : RD P r S Q ((d, v) :: E) h) : RD P (⟨some d, .call f args, none, hf⟩ :: r) S Q E h := fun T hT => by
  rw [s_cons]; exact H.opd hT (k _ (hT.put d v))
/-- What a place holds whose operation is carried out under a condition. -/
def gp (p : Prop) [Decidable p] (v : PV) : PV := if p then v else .tup []
theorem cv_fn {g : FuncId} {as : List PV} (ef : evE E f = some (.fn (.func g) [] [])) (ea : evL E args = some as) (hc : closedL as = true) (hfn : FnR P g as v) : CV P f args hf E h v := fun T hT => by
  refine ⟨g, as, ?_, .inl ⟨hc, hfn⟩⟩
  rw [evE_ok hT ef, evL_ok hT ea, callee_fn]
  simp
end

/-! The quiet ones -/
section
variable {hf : Bool} {x y i c : Operand} {a b v w : PV}
theorem ov_move (ex : evE E x = some a) : OV P (.move x) hf E h a := ⟨rfl, fun T hT => by rw [q_move, evE_ok hT ex]⟩
theorem ov_pick {u : PV} (ec : evE E c = some u) (ex : evE E x = some a) (ey : evE E y = some b) (hp : pickR u a b = some v) : OV P (.pick c x y) hf E h v := ⟨rfl, fun T hT => by rw [q_pick, evE_ok hT ec, evE_ok hT ex, evE_ok hT ey, hp]⟩
theorem ov_bin {op : BinOp} {t : TypeId} (ex : evE E x = some a) (ey : evE E y = some b) (hb : binF P op t x y a b = some v) : OV P (.bin op t x y) hf E h v := ⟨rfl, fun T hT => by rw [q_bin, evE_ok hT ex, evE_ok hT ey, hb]⟩
def convR (P : Program) (s d : TypeId) (v : PV) : Option PV := match toV v with
  | some a => (pureRun P (convert s d a)).map .ofConst
  | none => strR P s d v
theorem ov_bi {bu : Builtin} {ats : Array TypeId} {ty : TypeId} {os : List Operand} {vs : List PV} (es : evL E os = some vs) (hb : biF P bu ats ty vs = some v) : OV P (.bi bu ats ty os) hf E h v := ⟨rfl, fun T hT => by rw [q_bi, evL_ok hT es, hb]⟩
theorem ov_box {t : TypeId} {n : Nat} (ex : evE E x = some a) (hc : cnt a = some n) : OV P (.box false t x) hf E h (.fp a) := ⟨rfl, fun T hT => by
  rw [q_boxF, evE_ok hT ex]
  cases a <;> simp [cnt] at hc <;> rfl⟩
def nilCheckR : PV → Option PV
  | .fp v => some (.fp v)
  | .op id ver off => some (.op id ver off)
  | .fn (.func f) a b => some (.fn (.func f) a b)
  | _ => none
/-- A record from its parts, the parts told as values. -/
def buildV : List PV → List (Nat × Nat × PV) → Option (List PV)
  | zs, [] => some zs
  | zs, (off, sz, o) :: r => match o.cellsOf with
    | some cs => if cs.length = sz ∧ off + sz ≤ zs.length then buildV (spl zs off cs) r else none
    | none => none
def evP (E : TEnv) : List (Nat × Nat × Operand) → Option (List (Nat × Nat × PV))
  | [] => some []
  | (a, b, o) :: r => match evE E o with
    | some v => match evP E r with
      | some l => some ((a, b, v) :: l)
      | none => none
    | none => none
theorem evP_ok {T : Nat → PV} (hT : Ag E T) : ∀ {ps : List (Nat × Nat × Operand)} {vs : List (Nat × Nat × PV)} (zs : List PV), evP E ps = some vs → buildF T zs ps = buildV zs vs
  | [], vs, zs, e => by simp only [evP, Option.some.injEq] at e; subst e; rfl
  | (a, b, o) :: ps, vs, zs, e => by
    simp only [evP] at e
    cases hv : evE E o with
    | none => simp [hv] at e
    | some v =>
      cases hl : evP E ps with
      | none => simp [hv, hl] at e
      | some l =>
        simp only [hv, hl, Option.some.injEq] at e
        subst e
        simp only [buildF, buildV, evE_ok hT hv]
        cases v.cellsOf with
        | none => rfl
        | some cs =>
          simp only
          split
          · exact evP_ok hT _ hl
          · rfl
theorem ov_build {zs : List Value} {ps : List (Nat × Nat × Operand)} {vs : List (Nat × Nat × PV)} {cs : List PV} (es : evP E ps = some vs) (hb : buildV (zs.map .sc) vs = some cs) : OV P (.build zs ps) hf E h (.agg cs) := ⟨rfl, fun T hT => by
  show (buildF T (zs.map PV.sc) ps).map PV.agg = _
  rw [evP_ok hT _ es, hb]; rfl⟩
def indexSR (P : Program) (t : TypeId) (v i : PV) : Option PV := match toV v, toV i with
  | some a, some b => (pureRun P (Instr.index t a b)).map .ofConst
  | _, _ => none
def indexAR (len sz : Nat) (agg : Bool) (v i : PV) : Option PV := match v, i with
    | .agg cs, .sc (.int _ k) => if 0 ≤ k ∧ k < len then fieldOf (k.toNat * sz) sz agg cs else none
    | _, _ => none
def iaddrAR (len sz : Nat) (agg : Bool) (v i : PV) : Option PV := match v, i with
    | .fp (.agg cs), .sc (.int _ k) => if 0 ≤ k ∧ k < len then (fieldOf (k.toNat * sz) sz agg cs).map .fp else none
    | .op id ver off, .sc (.int _ k) => if 0 ≤ k ∧ k < len then some (.op id ver (off + k.toNat * sz)) else none
    | _, _ => none
def boundR (d : Nat) : Option PV → Option Nat
  | none => some d
  | some (.sc (.int _ n)) => if 0 ≤ n then some n.toNat else none
  | _ => none
def evO (E : TEnv) : Option Operand → Option (Option PV)
  | none => some none
  | some o => match evE E o with
    | some v => some (some v)
    | none => none
end

/-! The end of a function -/
def QR (P : Program) (rs : List (Tmp × Option (Nat × Bool))) (R : PV → Prop) : Post := retPost P rs fun v h => ∃ r, Deep P h v r ∧ R r
def resE (E : TEnv) : List (Tmp × Option (Nat × Bool)) → Option (List PV)
  | [] => some []
  | (t, none) :: r => match look t E with
    | some v => match resE E r with
      | some l => some (v :: l)
      | none => none
    | none => none
  | _ => none
def argE : Nat → List PV → TEnv
  | _, [] => []
  | k, a :: r => (k, a) :: argE (k + 1) r
theorem argE_ag : ∀ (l : List PV) (k : Nat) (T : Nat → PV), (∀ j a, l[j]? = some a → T (k + j) = a) → Ag (argE k l) T
  | [], k, T, _ => Ag.nil T
  | a :: l, k, T, hT => by
    intro t v e
    simp only [argE, look] at e
    by_cases ht : t = k
    · subst ht
      simp only [Nat.beq_refl, cond_true, Option.some.injEq] at e
      have := hT 0 a rfl
      simpa [e] using this
    · have hb : Nat.beq t k = false := beq_ne ht
      simp only [hb, cond_false] at e
      exact argE_ag l (k + 1) T (fun j b hj => by have := hT (j + 1) b (by simpa using hj); rwa [show k + 1 + j = k + (j + 1) by omega]) t v e
/-- **The contract of a function, by its text and the rules.** -/
theorem fnE {f : FuncId} {own : List Tmp} {n np : Nat} {ac : AC} {rs : List (Tmp × Option (Nat × Bool))} (X : FnText P f own n np ac rs) {args : List PV} {R : PV → Prop} (hn : args.length ≤ np)
    (H : RC P ac [] (QR P rs R) (argE 0 args) ⟨0, []⟩) : ∃ r, FnR P f args r ∧ R r := by
  refine FnR.mkE X R hn ?_
  exact H (args0 args) (argE_ag args 0 _ fun j a hj => by simp [args0, List.getD_eq_getElem?_getD, hj])
end
end Go.Pb

/-
  Plain library, part 28: what it means that a data value holds a number, a text, a list, a record.
-/
set_option linter.unusedVariables false
set_option linter.unusedSimpArgs false
namespace Go.Pb
open Go Go.RowKit

/-- Between Lean's values and data values. -/
structure TR (α : Type) where
  R : α → PV → Prop
  sz : Nat
  ag : Bool
  cnt : ∀ {a v}, R a v → Pb.cnt v = some sz
  agg : ∀ {a v}, R a v → v.isAgg = ag
  clo : ∀ {a v}, R a v → Pb.closed v = true

abbrev vu8 (b : UInt8) : PV := .sc (.int .u8 (b.toNat : Int))
abbrev vu32 (b : BitVec 32) : PV := .sc (.int .u32 (b.toNat : Int))
abbrev vu64 (b : BitVec 64) : PV := .sc (.int .u64 (b.toNat : Int))
abbrev vs (l : List UInt8) : PV := .sc (.string ⟨l.toArray⟩)

def tI : TR Int := ⟨fun n v => v = vi n, 1, false, fun h => by rw [h]; rfl, fun h => by rw [h]; rfl, fun h => by rw [h]; rfl⟩
def tB : TR Bool := ⟨fun n v => v = vb n, 1, false, fun h => by rw [h]; rfl, fun h => by rw [h]; rfl, fun h => by rw [h]; rfl⟩
def tU8 : TR UInt8 := ⟨fun n v => v = vu8 n, 1, false, fun h => by rw [h]; rfl, fun h => by rw [h]; rfl, fun h => by rw [h]; rfl⟩
def tU32 : TR (BitVec 32) := ⟨fun n v => v = vu32 n, 1, false, fun h => by rw [h]; rfl, fun h => by rw [h]; rfl, fun h => by rw [h]; rfl⟩
def tU64 : TR (BitVec 64) := ⟨fun n v => v = vu64 n, 1, false, fun h => by rw [h]; rfl, fun h => by rw [h]; rfl, fun h => by rw [h]; rfl⟩
def tS : TR (List UInt8) := ⟨fun n v => v = vs n, 1, false, fun h => by rw [h]; rfl, fun h => by rw [h]; rfl, fun h => by rw [h]; rfl⟩

def big : Nat := 9223372036854775807
def tSl {α : Type} (t : TR α) : TR (List α) := ⟨fun l v => SlOf t.R l v ∧ l.length ≤ 9223372036854775807, 1, false, fun h => SlOf.cnt h.1, fun h => SlOf.agg h.1, fun h => SlOf.closed h.1 fun a e he => t.clo he⟩

def ix {α : Type} [Inhabited α] (l : List α) (i : Int) : α := l.getD i.toNat default
section
variable {α : Type} {t : TR α} {P : Program}
theorem sl_len {l : List α} {v : PV} (h : (tSl t).R l v) {ty e : TypeId} (ht : P.underlying ty = some (.slice e)) (ty' : TypeId) : biF P .len [ty].toArray ty' [v] = some (vi l.length) := SlOf.len h.1 ht ty'
end
theorem clL_nil : closedL [] = true := rfl
theorem clL_cons {v : PV} {r : List PV} (h : closed v = true) (k : closedL r = true) : closedL (v :: r) = true := by simp [closedL, h, k]
theorem all_cons {v : PV} {r : List PV} {sz : Nat} (h : cnt v = some sz) (k : r.all (fun v => cnt v == some sz) = true) : (v :: r).all (fun v => cnt v == some sz) = true := by
  rw [List.all_cons, k, h]; simp

/-! What a typed program is read by -/
def LET {α β : Type} (e : α) (b : α → β) : β := b e
/-! Conditions of more than one part -/
/-! Numbers -/
def wr (n : Int) : Int := IntKind.i64.wrap n
section
variable {P : Program} {t : TypeId} {ox oy : Operand}
theorem i_gtr {a b : Int} : binF P .gtr t ox oy (vi a) (vi b) = some (vb (decide (b < a))) := bin_gtr ..
/-! From one kind of number to another -/
/-! Texts -/
end

/-! Results of more than one part -/
def RT2 (A B : PV → Prop) (v : PV) : Prop := ∃ a b, v = .tup [a, b] ∧ A a ∧ B b
def RT3 (A B C : PV → Prop) (v : PV) : Prop := ∃ a b c, v = .tup [a, b, c] ∧ A a ∧ B b ∧ C c

/-! A function as a value -/
def tFn (P : Program) {α β : Type} (ta : TR α) (tb : TR β) : TR (α → β) := ⟨fun g v => ∃ id first cap, v = .fn (.func id) first cap ∧ closedL first = true ∧ closedL cap = true ∧ ∀ a va, ta.R a va → ∃ vr, FnR P id (first ++ ([va] ++ cap)) vr ∧ tb.R (g a) vr,
  1, false, fun h => by obtain ⟨_, _, _, rfl, _⟩ := h; rfl, fun h => by obtain ⟨_, _, _, rfl, _⟩ := h; rfl, fun h => by obtain ⟨_, _, _, rfl, h1, h2, _⟩ := h; simp [closed, h1, h2]⟩
/-! Pointers to memory that nobody writes any more -/
def tP {α : Type} (t : TR α) : TR (Option α) := ⟨fun o v => match o with | none => v = .sc (.pointer none) | some a => ∃ e, v = .fp e ∧ t.R a e, 1, false,
  fun {a v} h => by cases a with | none => rw [h]; rfl | some a => obtain ⟨e, rfl, _⟩ := h; rfl,
  fun {a v} h => by cases a with | none => rw [h]; rfl | some a => obtain ⟨e, rfl, _⟩ := h; rfl,
  fun {a v} h => by cases a with | none => rw [h]; rfl | some a => obtain ⟨e, rfl, h⟩ := h; simpa [closed] using t.clo h⟩

end Go.Pb

/-
  Plain library, part 29: a call's own memory as a list of what it holds.
-/
set_option linter.unusedVariables false
set_option linter.unusedSimpArgs false
namespace Go.Pb
open Go Go.RowKit

/-- A place of own memory: its address or the slice over it, the type and the size of its parts, and the parts. -/
structure Ent where
  v : PV
  ty : TypeId
  sz : Nat
  es : List PV

/-- An entry of a map, as two cells. -/
def encKV (e : Value × PV) : PV := .agg [.sc e.1, e.2]
/-- No address of a record, no map. -/
def isL : PV → Bool
  | .op _ _ _ => false
  | .om _ _ => false
  | _ => true
def EntV (h : Heap) (ty : TypeId) (es : List PV) : PV → Prop
  | .op id ver 0 => ∃ x cs, es = [x] ∧ x.cellsOf = some cs ∧ blk h id = some (.cells ver ty true cs)
  | .os id ver 0 n => n = es.length ∧ ∃ cs, rowCells es = some cs ∧ blk h id = some (.cells ver ty true cs)
  | .sc (.slice _ 0 0) => es = []
  | .fs true es' => es' = es
  | .om id ver => ∃ ms : List (Value × PV), es = ms.map encKV ∧ blk h id = some (.mp ver ms)
  | _ => False
def EntR (h : Heap) (e : Ent) : Prop := (∀ x ∈ e.es, cnt x = some e.sz) ∧ EntV h e.ty e.es e.v
def idOf : PV → Option Nat
  | .op id _ _ => some id
  | .os id _ _ _ => some id
  | .om id _ => some id
  | _ => none
def Apart (a b : Ent) : Prop := ∀ i, idOf a.v = some i → idOf b.v = some i → False
structure Mem (h : Heap) (L : List Ent) : Prop where
  ent : ∀ e ∈ L, EntR h e
  dis : L.Pairwise Apart

theorem Apart.symm {a b : Ent} (h : Apart a b) : Apart b a := fun i h1 h2 => h i h2 h1
theorem Mem.nil (h : Heap) : Mem h [] := ⟨fun e he => by simp at he, .nil⟩
theorem Mem.at {h : Heap} {L : List Ent} (M : Mem h L) {k : Nat} {e : Ent} (hk : L[k]? = some e) : EntR h e := M.ent e (List.mem_of_getElem? hk)
theorem Mem.atF {h : Heap} {L : List Ent} (M : Mem h L) {k : Nat} {v : PV} {ty : TypeId} {sz : Nat} {es : List PV} (hk : L[k]? = some ⟨v, ty, sz, es⟩) : (∀ x ∈ es, cnt x = some sz) ∧ EntV h ty es v := M.ent _ (List.mem_of_getElem? hk)
theorem Mem.sub {h : Heap} {L L' : List Ent} (M : Mem h L) (s : L'.Sublist L) : Mem h L' := ⟨fun e he => M.ent e (s.subset he), M.dis.sublist s⟩

/-- What leaves the blocks of the others alone. -/
theorem EntR.frame {h h' : Heap} {e : Ent} (H : EntR h e) (hb : ∀ i, idOf e.v = some i → i < hlen h → blk h' i = blk h i) : EntR h' e := by
  refine ⟨H.1, ?_⟩
  have H2 := H.2
  unfold EntV at H2 ⊢
  split at H2
  · obtain ⟨x, cs, h1, h2, h3⟩ := H2
    exact ⟨x, cs, h1, h2, by rw [hb _ (by simp_all [idOf]) (blk_lt h3)]; exact h3⟩
  · obtain ⟨h1, cs, h2, h3⟩ := H2
    exact ⟨h1, cs, h2, by rw [hb _ (by simp_all [idOf]) (blk_lt h3)]; exact h3⟩
  · exact H2
  · exact H2
  · obtain ⟨ms, h1, h2⟩ := H2
    exact ⟨ms, h1, by rw [hb _ (by simp_all [idOf]) (blk_lt h2)]; exact h2⟩
  · exact H2
theorem EntR.lt {h : Heap} {e : Ent} (H : EntR h e) {i : Nat} (hi : idOf e.v = some i) : i < hlen h := by
  have H2 := H.2
  unfold EntV at H2
  split at H2
  · obtain ⟨x, cs, h1, h2, h3⟩ := H2
    have := blk_lt h3
    simp_all [idOf]
  · obtain ⟨h1, cs, h2, h3⟩ := H2
    have := blk_lt h3
    simp_all [idOf]
  · simp_all [idOf]
  · simp_all [idOf]
  · obtain ⟨ms, h1, h2⟩ := H2
    have := blk_lt h2
    simp_all [idOf]
  · exact H2.elim

theorem Mem.new {h h' : Heap} {L : List Ent} {e : Ent} (M : Mem h L) (he : EntR h' e) (hi : ∀ i, idOf e.v = some i → hlen h ≤ i) (hb : ∀ i, i < hlen h → blk h' i = blk h i) : Mem h' (e :: L) := by
  refine ⟨fun x hx => ?_, .cons (fun x hx i h1 h2 => ?_) M.dis⟩
  · rcases List.mem_cons.1 hx with rfl | hx
    · exact he
    · exact (M.ent x hx).frame fun i _ hi => hb i hi
  · have := (M.ent x hx).lt h2
    have := hi i h1
    omega

theorem pairwise_set {L : List Ent} (hp : L.Pairwise Apart) {k : Nat} {e e' : Ent} (hk : L[k]? = some e) (hn : ∀ x ∈ L, Apart e x → Apart e' x) : (L.set k e').Pairwise Apart := by
  induction L generalizing k with
  | nil => simp at hk
  | cons a L ih =>
    cases k with
    | zero =>
      simp only [List.getElem?_cons_zero, Option.some.injEq] at hk
      subst hk
      simp only [List.set_cons_zero]
      rw [List.pairwise_cons] at hp ⊢
      exact ⟨fun x hx => hn x (by simp [hx]) (hp.1 x hx), hp.2⟩
    | succ k =>
      simp only [List.getElem?_cons_succ] at hk
      simp only [List.set_cons_succ]
      rw [List.pairwise_cons] at hp ⊢
      refine ⟨fun x hx => ?_, ih hp.2 hk fun x hx => hn x (by simp [hx])⟩
      rcases List.mem_or_eq_of_mem_set hx with h1 | h1
      · exact hp.1 x h1
      · subst h1
        exact (hn a (by simp) (hp.1 e (List.mem_of_getElem? hk)).symm).symm

theorem pairwise_other {L : List Ent} (hp : L.Pairwise Apart) {k : Nat} {e : Ent} (hk : L[k]? = some e) {j : Nat} (hj : j ≠ k) {x : Ent} (hx : L[j]? = some x) : Apart e x := by
  rw [List.pairwise_iff_getElem] at hp
  obtain ⟨h1, rfl⟩ := List.getElem?_eq_some_iff.1 hk
  obtain ⟨h2, rfl⟩ := List.getElem?_eq_some_iff.1 hx
  rcases Nat.lt_or_gt_of_ne hj with h | h
  · exact (hp j k h2 h1 h).symm
  · exact hp k j h1 h2 h

/-- One place written, or moved to a new block. -/
theorem Mem.upd {h h' : Heap} {L : List Ent} {k : Nat} {e e' : Ent} (M : Mem h L) (hk : L[k]? = some e) (he : EntR h' e') (hi : ∀ i, idOf e'.v = some i → idOf e.v = some i ∨ hlen h ≤ i) (hb : ∀ i, i < hlen h → idOf e.v ≠ some i → blk h' i = blk h i) : Mem h' (L.set k e') := by
  have key : ∀ x ∈ L, Apart e x → Apart e' x := fun x hx ha i h1 h2 => by
    rcases hi i h1 with h3 | h3
    · exact ha i h3 h2
    · have := (M.ent x hx).lt h2; omega
  refine ⟨fun x hx => ?_, pairwise_set M.dis hk key⟩
  obtain ⟨j, hj⟩ := List.getElem?_of_mem hx
  by_cases hjk : j = k
  · subst hjk
    rw [List.getElem?_set_self (List.getElem?_eq_some_iff.1 hk).1] at hj
    simp only [Option.some.injEq] at hj
    subst hj
    exact he
  · rw [List.getElem?_set_ne (fun e => hjk e.symm)] at hj
    have ha := pairwise_other M.dis hk hjk hj
    exact (M.ent x (List.mem_of_getElem? hj)).frame fun i h1 h2 => hb i h2 fun h3 => ha i h3 h1

section
variable {P : Program} {h : Heap} {L : List Ent} {E : TEnv} {k : Nat} {ty : TypeId} {sz : Nat}

theorem cells_of_cnt {x : PV} {n : Nat} (hx : cnt x = some n) : ∃ cs, x.cellsOf = some cs ∧ cs.length = n := by
  cases x <;> simp [cnt] at hx <;> simp [PV.cellsOf, hx]

/-! Slices -/
theorem rowCells_ex : ∀ {es : List PV}, (∀ x ∈ es, cnt x = some sz) → ∃ cs, rowCells es = some cs ∧ cs.length = es.length * sz
  | [], _ => ⟨[], rfl, by simp⟩
  | e :: es, hc => by
    obtain ⟨a, h1, h2⟩ := cells_of_cnt (hc e (by simp))
    obtain ⟨b, h3, h4⟩ := rowCells_ex (es := es) fun x hx => hc x (by simp [hx])
    exact ⟨a ++ b, by simp [rowCells, h1, h3], by simp [h2, h4, Nat.succ_mul]; omega⟩
theorem rowCells_app : ∀ {es fs : List PV} {cs ds : List PV}, rowCells es = some cs → rowCells fs = some ds → rowCells (es ++ fs) = some (cs ++ ds)
  | [], fs, cs, ds, h1, h2 => by simp only [rowCells, Option.some.injEq] at h1; subst h1; simpa using h2
  | e :: es, fs, cs, ds, h1, h2 => by
    simp only [rowCells] at h1
    cases ha : e.cellsOf with
    | none => simp [ha] at h1
    | some a =>
      cases hb : rowCells es with
      | none => simp [ha, hb] at h1
      | some b =>
        simp only [ha, hb, Option.some.injEq] at h1
        subst h1
        simp [rowCells, ha, rowCells_app hb h2]
theorem all_of {es : List PV} (hc : ∀ x ∈ es, cnt x = some sz) : es.all (fun v => cnt v == some sz) = true := by
  rw [List.all_eq_true]; intro x hx; simp [hc x hx]

/-- What an append adds. -/
def Src (h : Heap) (sz : Nat) (x : PV) (news : List PV) : Prop := ∃ cs, srcF h sz x = some (news.length, cs) ∧ rowCells news = some cs ∧ ∀ y ∈ news, cnt y = some sz
theorem mem_append {v x : PV} {es news : List PV} {b : Nat} (M : Mem h L) (hk : L[k]? = some ⟨v, ty, sz, es⟩) (hne : isL v = true) (hx : Src h sz x news) (hf : fits (es.length + news.length) b = true) :
    ∃ v' h', appendR h ty sz b v x = some (v', h') ∧ isL v' = true ∧ Mem h' (L.set k ⟨v', ty, sz, es ++ news⟩) := by
  obtain ⟨nc, hs1, hs2, hs3⟩ := hx
  have H := M.at hk
  have HF := M.atF hk
  obtain ⟨cs, h1, h2⟩ := rowCells_ex HF.1
  have hrow := rowCells_app h1 hs2
  have hall : ∀ y ∈ es ++ news, cnt y = some sz := fun y hy => by
    rcases List.mem_append.1 hy with h3 | h3
    · exact HF.1 y h3
    · exact hs3 y h3
  by_cases h0 : news.length = 0
  · have hn : news = [] := List.eq_nil_of_length_eq_zero h0
    subst hn
    rw [List.append_nil]
    have hset : L.set k ⟨v, ty, sz, es⟩ = L := by
      obtain ⟨h5, h6⟩ := List.getElem?_eq_some_iff.1 hk
      rw [← h6, List.set_getElem_self]
    refine ⟨v, h, ?_, hne, by rw [hset]; exact M⟩
    have H2 := H.2
    simp only [appendR, hs1, List.length_nil]
    unfold EntV at H2
    split at H2
    · rename_i id ver hv; simp only at hv; rw [hv] at hne; cases hne
    · rename_i id ver n hv; simp only at hv; rw [hv]; simp [appF]
    · rename_i ad hv; simp only at hv; rw [hv]; simp [appF]
    · rename_i es' hv; simp only at hv; rw [hv]; simp [appF]
    · rename_i id ver hv; simp only at hv; rw [hv] at hne; cases hne
    · exact H2.elim
  · have H2 := H.2
    simp only [appendR, hs1]
    unfold EntV at H2
    split at H2
    · rename_i id ver hv; simp only at hv; rw [hv] at hne; cases hne
    · rename_i id ver n hv
      simp only at hv H2
      obtain ⟨hn, cs', h3, h4⟩ := H2
      rw [h1] at h3
      simp only [Option.some.injEq] at h3
      subst h3 hv
      have h4' := h4
      simp only [blk] at h4'
      have htk : cs.take (n * sz) = cs := by rw [hn, ← h2, List.take_length]
      refine ⟨.os id h.nv 0 (n + news.length), hgrow h id (.cells h.nv ty true (cs ++ nc)), ?_, rfl, M.upd hk ⟨hall, by simp [hn], _, hrow, by simp [blk_lt h4]⟩ (fun i hi => .inl hi) fun i hi hne' => ?_⟩
      · simp only [appF, h0, if_false, h4']
        rw [if_pos ⟨trivial, trivial, by subst hn; omega, by rw [hn]; exact hf⟩, htk]
        rfl
      · exact blk_grow_ne _ _ _ _ fun e => hne' (by simp [idOf, e])
    · rename_i ad hv
      simp only at hv H2
      subst H2 hv
      simp only [List.length_nil, Nat.zero_add] at hf
      refine ⟨.os (hlen h) h.nv 0 news.length, hnew h (.cells h.nv ty true nc), ?_, rfl, M.upd hk ⟨by simpa using hs3, by simp, nc, by simpa using hs2, by simp⟩ (fun i hi => .inr (by simp [idOf] at hi; omega)) fun i hi _ => by simp [hi]⟩
      simp only [appF, h0, if_false, hf, if_true]
      rfl
    · rename_i es' hv
      simp only at hv H2
      subst H2 hv
      refine ⟨.os (hlen h) h.nv 0 (es'.length + news.length), hnew h (.cells h.nv ty true (cs ++ nc)), ?_, rfl, M.upd hk ⟨hall, by simp, _, hrow, by simp⟩ (fun i hi => .inr (by simp [idOf] at hi; omega)) fun i hi _ => by simp [hi]⟩
      simp only [appF, h0, if_false]
      rw [if_pos ⟨trivial, all_of HF.1, hf⟩, h1]
      rfl
    · rename_i id ver hv; simp only at hv; rw [hv] at hne; cases hne
    · exact H2.elim
/-! With Lean's values -/
theorem All2.set {α : Type} {R : α → PV → Prop} : ∀ {l : List α} {es : List PV} {i : Nat} {a : α} {v : PV}, All2 R l es → R a v → All2 R (l.set i a) (es.set i v)
  | [], [], _, _, _, _, _ => trivial
  | [], _ :: _, _, _, _, h, _ => by simp [All2] at h
  | _ :: _, [], _, _, _, h, _ => by simp [All2] at h
  | _ :: _, _ :: _, 0, _, _, h, hr => ⟨hr, h.2⟩
  | _ :: _, _ :: _, i + 1, _, _, h, hr => ⟨h.1, All2.set h.2 hr⟩
theorem All2.cnt {α : Type} {t : TR α} : ∀ {l : List α} {es : List PV}, All2 t.R l es → ∀ x ∈ es, Pb.cnt x = some t.sz
  | [], [], _, x, hx => by simp at hx
  | [], _ :: _, h, _, _ => by simp [All2] at h
  | _ :: _, [], h, _, _ => by simp [All2] at h
  | _ :: _, _ :: _, h, x, hx => by
    rcases List.mem_cons.1 hx with rfl | hx
    · exact t.cnt h.1
    · exact All2.cnt h.2 x hx
theorem All2.clo {α : Type} {t : TR α} {l : List α} {es : List PV} (h : All2 t.R l es) : closedL es = true := h.closed fun a e he => t.clo he
/-! Maps -/
theorem mem_map (M : Mem h L) (ty : TypeId) : Mem ⟨h.nv + 1, h.bl ++ [.mp h.nv []]⟩ (⟨.om (hlen h) h.nv, ty, 2, []⟩ :: L) :=
  M.new ⟨fun x hx => by simp at hx, [], rfl, by simp [blk, hlen]⟩ (fun i hi => by simp [idOf] at hi; omega) fun i hi => by
    simp only [blk]; exact List.getElem?_append_left hi
def tKV {α : Type} (t : TR α) : TR (Int × α) := ⟨fun p v => ∃ w, v = .agg [vi p.1, w] ∧ t.R p.2 w, 2, true, fun h => by obtain ⟨w, rfl, _⟩ := h; rfl, fun h => by obtain ⟨w, rfl, _⟩ := h; rfl, fun h => by obtain ⟨w, rfl, h⟩ := h; simp [closed, closedL, t.clo h]⟩
def mget {α : Type} (l : List (Int × α)) (k : Int) : Option α := match l with
  | [] => none
  | p :: r => if p.1 = k then some p.2 else mget r k
def mput {α : Type} (l : List (Int × α)) (k : Int) (v : α) : List (Int × α) := match l with
  | [] => [(k, v)]
  | p :: r => if p.1 = k then (k, v) :: r else p :: mput r k v
end
end Go.Pb

/-
  Plain library, part 30: what the printed proofs lean on besides.
-/
set_option linter.unusedVariables false
set_option linter.unusedSimpArgs false
namespace Go.Pb
open Go Go.RowKit

section
variable {P : Program} {S : List Fr} {Q : Post} {E E0 : TEnv} {h h' : Heap} {op : AOp} {hf : Bool} {v : PV} {r l : List AOper} {d t : Nat} {f : Operand} {args : List Operand} {w b : Bool}
theorem rd_yes (hg : look t E = some (vb b)) (hb : b = w) (H : OV P op hf E h v) (k : RD P r S Q ((d, v) :: E) h) : RD P (⟨some d, op, some (t, w), hf⟩ :: r) S Q E h := fun T hT => by
  subst hb
  rw [s_guard, hT t _ hg, gF_b, show (b == b) = true by simp, g_true]
  exact H.opd hT (k _ (hT.put d v))
theorem rd_ycall (hg : look t E = some (vb b)) (hb : b = w) (H : CV P f args hf E h v) (k : RD P r S Q ((d, v) :: E) h) : RD P (⟨some d, .call f args, some (t, w), hf⟩ :: r) S Q E h := fun T hT => by
  subst hb
  rw [s_guard, hT t _ hg, gF_b, show (b == b) = true by simp, g_true]
  exact H.opd hT (k _ (hT.put d v))
inductive ResV (E : TEnv) (h : Heap) : List (Tmp × Option (Nat × Bool)) → List PV → Prop
  | nil : ResV E h [] []
  | tmp {t v rs vs} (e : look t E = some v) (k : ResV E h rs vs) : ResV E h ((t, none) :: rs) (v :: vs)
  | cell {t a sz agg v rs vs} (e : look t E = some a) (l : loadR h sz agg a = some v) (k : ResV E h rs vs) : ResV E h ((t, some (sz, agg)) :: rs) (v :: vs)
theorem ResV.ok {T : Nat → PV} (hT : Ag E T) {rs : List (Tmp × Option (Nat × Bool))} {vs : List PV} (H : ResV E h rs vs) : resV P T h rs = some vs := by
  induction H with
  | nil => rfl
  | tmp e k ih => simp [resV, ih, hT _ _ e]
  | cell e l k ih =>
    rw [q_cell, hT _ _ e, l, ih]; rfl
theorem rc_retV {rs : List (Tmp × Option (Nat × Bool))} {R : PV → Prop} {vs : List PV} {r : PV} (e : ResV E h rs vs) (hd : Deep P h (retV vs) r) (hr : R r) : RC P .ret S (QR P rs R) E h := fun T hT => by
  rw [x_ret]
  exact ⟨vs, e.ok hT, r, hd, hr⟩
end

/-! Own memory, carried out -/
section
variable {P : Program} {S : List Fr} {Q : Post} {E : TEnv} {h : Heap} {L : List Ent} {hf : Bool} {r : List AOper} {d k : Nat} {ty : TypeId} {sz : Nat} {o o' : Operand}
/-- Empty, or memory of its own: so that its parts may be written. -/
def Wri (v : PV) (es : List PV) : Prop := es = [] ∨ ∃ id ver n, v = .os id ver 0 n
end

/-! Arrays -/
theorem rowCells_clo : ∀ {es cs : List PV}, rowCells es = some cs → closedL es = true → closedL cs = true := fun h k => by rw [rowCells_closed h, k]
def tAr (n : Nat) {α : Type} (t : TR α) : TR (List α) := ⟨fun l v => l.length = n ∧ ∃ es cs, All2 t.R l es ∧ rowCells es = some cs ∧ v = .agg cs, n * t.sz, true,
  fun h => by
    obtain ⟨h0, es, cs, h1, h2, rfl⟩ := h
    obtain ⟨cs', h3, h4⟩ := rowCells_ex h1.cnt
    rw [h2] at h3
    simp only [Option.some.injEq] at h3
    subst h3
    simp [cnt, h4, h1.length, h0],
  fun h => by obtain ⟨h0, es, cs, h1, h2, rfl⟩ := h; rfl,
  fun h => by obtain ⟨h0, es, cs, h1, h2, rfl⟩ := h; simpa [closed] using rowCells_clo h2 h1.clo⟩
end Go.Pb
