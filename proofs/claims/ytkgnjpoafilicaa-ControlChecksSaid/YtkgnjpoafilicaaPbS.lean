/-
  Plain library, part 35: regions of fixed order: own memory that is frozen, calls that turn memory.
-/
import Derived.Test.YtkgnjpoafilicaaPbN
set_option linter.unusedVariables false
set_option linter.unusedSimpArgs false
namespace Go.Pb
open Go Go.RowKit

section
variable {P : Program} {w0 : World} {F0 : Nat → Prop} {h : Heap} {x : Cx}

/-- A block of the call's own that nobody will write any more. -/
theorem RelP.freeze (R : RelP P w0 F0 h x) {id ver : Nat} {ty : TypeId} {cs : List PV} (hb : blk h id = some (.cells ver ty true cs)) :
    ∃ y, y.w = x.w ∧ y.J = x.J ∧ Ext x y ∧ (∀ b, x.J id ver = some b → y.F b) ∧ RelP P w0 F0 (hput h id (.cells ver ty false cs)) y := by
  have hb' : h.bl[id]? = some (.cells ver ty true cs) := hb
  have E : Ext x ⟨x.w, fun b => x.F b ∨ x.J id ver = some b, x.J⟩ := ⟨Nat.le_refl _, fun b hF => ⟨.inl hF, rfl⟩, fun _ _ _ e => e, fun b cur ty fr e => ⟨cur, e, rfl⟩⟩
  refine ⟨⟨x.w, fun b => x.F b ∨ x.J id ver = some b, x.J⟩, rfl, rfl, E, fun b hj => .inr hj, ?_⟩
  have look : ∀ (i : Nat) b, (hput h id (.cells ver ty false cs)).bl[i]? = some b → (i = id ∧ b = .cells ver ty false cs) ∨ (i ≠ id ∧ h.bl[i]? = some b) := by
    intro i b hi
    by_cases e : i = id
    · subst e
      have := blk_put h i (.cells ver ty false cs) (blk_lt hb)
      simp only [blk] at this
      rw [this] at hi
      exact .inl ⟨rfl, (Option.some.inj hi).symm⟩
    · have := blk_put_ne h id i (.cells ver ty false cs) (fun e' => e e'.symm)
      simp only [blk] at this
      rw [this] at hi
      exact .inr ⟨e, hi⟩
  refine ⟨R.below, R.f0, fun b hF => .inl (R.fsub b hF), fun b hF => ?_, R.own, R.fresh, fun i j bi bj b h1 h2 h3 h4 => ?_, fun i bi hi => ?_⟩
  · rcases hF with hF | hF
    · exact R.fnew b hF
    · exact ⟨(R.own _ _ _ hF).2, .inr (R.own _ _ _ hF).1⟩
  · have g1 : ∃ b', h.bl[i]? = some b' ∧ b'.ver = bi.ver := by
      rcases look i bi h1 with ⟨rfl, rfl⟩ | ⟨_, h5⟩
      · exact ⟨_, hb', rfl⟩
      · exact ⟨_, h5, rfl⟩
    have g2 : ∃ b', h.bl[j]? = some b' ∧ b'.ver = bj.ver := by
      rcases look j bj h2 with ⟨rfl, rfl⟩ | ⟨_, h5⟩
      · exact ⟨_, hb', rfl⟩
      · exact ⟨_, h5, rfl⟩
    obtain ⟨b1, e1, e2⟩ := g1
    obtain ⟨b2, e3, e4⟩ := g2
    exact R.inj i j b1 b2 b e1 e3 (by rw [e2]; exact h3) (by rw [e4]; exact h4)
  · rcases look i bi hi with ⟨rfl, rfl⟩ | ⟨hne, h5⟩
    · intro b hj
      obtain ⟨⟨cur, h1, h2, h3⟩, _⟩ := R.hr i _ hb' b hj
      exact ⟨⟨cur, h1, h2, VRL_ext E _ _ h3⟩, .inr hj⟩
    · refine BlkR_ext E rfl (fun b hj => ⟨rfl, ⟨fun hF => ?_, .inl⟩⟩) (R.hr i bi h5)
      rcases hF with hF | hF
      · exact hF
      · exact absurd (R.inj i id bi _ b h5 hb' hj hF) hne

/-! A value in which an own slice is told az0 a frozen one. -/
mutual
inductive FrzV (v d : PV) : PV → PV → Prop where
  | same (w : PV) : FrzV v d w w
  | turn : FrzV v d v d
  | agg {cs ds : List PV} : FrzL v d cs ds → FrzV v d (.agg cs) (.agg ds)
inductive FrzL (v d : PV) : List PV → List PV → Prop where
  | nil : FrzL v d [] []
  | cons {c e : PV} {cs es : List PV} : FrzV v d c e → FrzL v d cs es → FrzL v d (c :: cs) (e :: es)
end
mutual
theorem FrzV.conv {v d : PV} (hb : ∀ us, VRC P x v us → VRC P x d us) : ∀ {w u : PV}, FrzV v d w u → ∀ us, VRC P x w us → VRC P x u us
  | _, _, .same w, us, h => h
  | _, _, .turn, us, h => hb us h
  | _, _, .agg hl, us, h => FrzL.conv hb hl us h
theorem FrzL.conv {v d : PV} (hb : ∀ us, VRC P x v us → VRC P x d us) : ∀ {cs ds : List PV}, FrzL v d cs ds → ∀ us, VRL P x cs us → VRL P x ds us
  | _, _, .nil, us, h => h
  | _, _, .cons h1 h2, us, h => by
    cases us with
    | nil => simp [VRL] at h
    | cons u us =>
      simp only [VRL] at h ⊢
      exact ⟨h.1, FrzV.conv hb h1 _ h.2.1, FrzL.conv hb h2 _ h.2.2⟩
end
/-- The same temporaries; some hold a slice that is frozen now. -/
def FrzE (v d : PV) (E E' : TEnv) : Prop := ∀ t u, look t E' = some u → ∃ w, look t E = some w ∧ FrzV v d w u
/-- What code in a region of fixed order must meet. -/
def runS (P : Program) (al : List AOper) (S : List Fr) (Q : Post) (T : Nat → PV) (h : Heap) : Prop := wpS P al T h (asPost P S Q .normal)
def RS (P : Program) (l : List AOper) (S : List Fr) (Q : Post) (E : TEnv) (h : Heap) : Prop := ∀ T, Ag E T → runS P l S Q T h
end

section
variable {P : Program} {S : List Fr} {Q : Post} {E E' : TEnv} {h : Heap} {L : List Ent} {r : List AOper} {o : AOper} {d : Nat} {hf : Bool}
theorem rc_regionS {al : List AOper} (k : RS P al S Q E h) : RC P (.region false al) S Q E h := fun T hT => .inr ⟨rfl, k T hT⟩
theorem rs_nil (k : PN P S Q E h) : RS P [] S Q E h := fun T hT => ⟨T, h, Wk.refl T h, k T hT⟩
def bk (P : Program) (r : List AOper) (S : List Fr) (Q : Post) : Fr := .loop fun T h => runS P r S Q T h
theorem wpS_of_D {K : (Nat → PV) → Heap → Prop} {T : Nat → PV} (H : wpD P [o] T h fun T h => wpS P r T h K) : wpS P (o :: r) T h K := by
  obtain ⟨g, hg, h1, h2⟩ := H
  exact ⟨T, h, Wk.refl T h, g, hg, fun e => .inl (h1 e), h2⟩
theorem rs_step (k : RD P [o] (bk P r S Q :: S) Q E h) : RS P (o :: r) S Q E h := fun T hT => wpS_of_D (k T hT)
theorem rs_back (k : RS P r S Q E h) : RD P [] (bk P r S Q :: S) Q E h := k
theorem rs_callX {f : Operand} {args : List Operand} {g : FuncId} {az0 : List PV} {v : PV} {h' : Heap} (ef : evE E f = some (.fn (.func g) [] [])) (ea : evL E args = some az0) (H : FnX P g az0 h v h') (k : RS P r S Q ((d, v) :: E) h') : RS P (⟨some d, .call f args, none, hf⟩ :: r) S Q E h := fun T hT =>
  ⟨T, h, Wk.refl T h, true, rfl, fun _ => .inr ⟨f, args, g, az0, v, h', rfl, by rw [evE_ok hT ef, evL_ok hT ea]; simp [callee], H, k _ (hT.put d v)⟩, fun e => by cases e⟩
theorem mem_one {k : Nat} {v : PV} {ty : TypeId} {sz : Nat} {es : List PV} (M : Mem h L) (hk : L[k]? = some ⟨v, ty, sz, es⟩) (hne : isL v = true) : v.cellsOf = some [v] ∧ v.isAgg = false := by
  have hv := (M.atF hk).2
  cases v with
  | os id ver off n => exact ⟨rfl, rfl⟩
  | fs t es' => exact ⟨rfl, rfl⟩
  | sc u => exact ⟨rfl, rfl⟩
  | _ => first | exact hv.elim | (simp [isL] at hne)
end
end Go.Pb
