/-
  Plain library, part 41: functions made with what they see, parts of slices, arrays of one's own.
-/
import Derived.Test.YtkgnjpoafilicaaPbK
set_option linter.unusedVariables false
set_option linter.unusedSimpArgs false
namespace Go.Pb
open Go Go.RowKit
section
variable {P : Program} {S : List Fr} {Q : Post} {E : TEnv} {h : Heap} {hf : Bool} {L : List Ent} {r : List AOper} {ty : TypeId} {sz : Nat}
theorem max_int3 {P : Program} {k : IntKind} {a b c : Int} (ats : Array TypeId) (ty : TypeId) : biF P .max ats ty [.sc (.int k a), .sc (.int k b), .sc (.int k c)] = some (.sc (.int k (max (max a b) c))) := by
  have h1 : (if a < b then b else a) = max a b := by omega
  have h2 : ∀ x : Int, (if x < c then c else x) = max x c := fun x => by omega
  simp [biF, toVs, toV, Builtin.max_, Builtin.max2, pureRun, List.foldlM, bind, pure, Sem.bind, Sem.instMonad, h1, h2]
def sub {α : Type} (l : List α) (a b : Int) : List α := (l.drop a.toNat).take (b.toNat - a.toNat)
theorem All2.drop {α : Type} {R : α → PV → Prop} : ∀ {l : List α} {es : List PV} (k : Nat), All2 R l es → All2 R (l.drop k) (es.drop k)
  | _, _, 0, h => h
  | [], [], k + 1, h => by simpa using h
  | a :: l, e :: es, k + 1, h => by simpa using All2.drop k h.2
  | [], _ :: _, _ + 1, h => by simp [All2] at h
  | _ :: _, [], _ + 1, h => by simp [All2] at h
theorem All2.take {α : Type} {R : α → PV → Prop} : ∀ {l : List α} {es : List PV} (k : Nat), All2 R l es → All2 R (l.take k) (es.take k)
  | _, _, 0, h => by simp [All2]
  | [], [], k + 1, h => by simpa using h
  | a :: l, e :: es, k + 1, h => by simpa [All2] using ⟨h.1, All2.take k h.2⟩
  | [], _ :: _, _ + 1, h => by simp [All2] at h
  | _ :: _, [], _ + 1, h => by simp [All2] at h
/-- A bound of a part: not given, or a number. -/
def Bnd (E : TEnv) (d : Int) (o : Option Operand) (a : Int) : Prop := match o with
  | none => a = d
  | some o => evE E o = some (vi a)
theorem Bnd.eq {E : TEnv} {T : Nat → PV} {d : Nat} {o : Option Operand} {a : Int} (H : Bnd E d o a) (hT : Ag E T) (h0 : 0 ≤ a) : boundF T d o = some a.toNat := by
  cases o with
  | none => have e : a = d := H; subst e; simp [boundF]
  | some o => have e : evE E o = some (vi a) := H; simp [boundF, evE_ok hT e, h0]
/-! Arrays of one's own -/
theorem ov_iaddrAO {x i : Operand} {id ver len sz : Nat} {agg : Bool} {k : Int} (ex : evE E x = some (.op id ver 0)) (ei : evE E i = some (vi k)) (h0 : 0 ≤ k) (h1 : k < len) : OV P (.iaddrA len sz agg x i) hf E h (.op id ver (0 + k.toNat * sz)) := ⟨rfl, fun T hT => by
  simp only [opQ, evE_ok hT ex, evE_ok hT ei]
  rw [if_pos ⟨h0, h1⟩]⟩
theorem arr_store {n : Nat} {α : Type} {t : TR α} {l : List α} {v : PV} {i : Int} (H : (tAr n t).R l v) (h0 : 0 ≤ i) (h1 : i < n) {a : α} {va : PV} (ra : t.R a va) {ds : List PV} (hd : va.cellsOf = some ds) :
    ∃ cs, v = .agg cs ∧ (ds.length = t.sz ∧ i.toNat * t.sz + ds.length ≤ cs.length) ∧ (tAr n t).R (l.set i.toNat a) (.agg (spl cs (i.toNat * t.sz) ds)) := by
  obtain ⟨hl, es, cs, h2, h3, rfl⟩ := H
  obtain ⟨ds', h4, h5⟩ := cells_of_cnt (t.cnt ra)
  rw [hd] at h4
  simp only [Option.some.injEq] at h4
  subst h4
  obtain ⟨cs', h6, h7⟩ := rowCells_ex h2.cnt
  rw [h3] at h6
  simp only [Option.some.injEq] at h6
  subst h6
  have hlen := h2.length
  have hle : i.toNat * t.sz + t.sz ≤ es.length * t.sz := by
    rw [← Nat.succ_mul]; exact Nat.mul_le_mul_right _ (by omega)
  exact ⟨cs, rfl, ⟨h5, by omega⟩, by simp [hl], es.set i.toNat va, _, h2.set ra, rowCells_set h2.cnt h3 (by omega) hd h5, rfl⟩
theorem rd_storeFA {o o' : Operand} {id ver off n : Nat} {cs ds : List PV} {x v : PV} {k : Nat} (M : Mem h L) (eo : evE E o = some (.op id ver (0 + off))) (ev' : evE E o' = some v) (hk : L[k]? = some ⟨.op id ver 0, ty, sz, [x]⟩) (hx : x = .agg cs) (hv : v.cellsOf = some ds) (hn : ds.length = n) (hl : off + ds.length ≤ cs.length)
    (K : ∀ h', Mem h' (L.set k ⟨.op id ver 0, ty, sz, [.agg (spl cs off ds)]⟩) → RD P r S Q E h') : RD P (⟨none, .store n o o', none, hf⟩ :: r) S Q E h := by
  subst hx
  exact rd_storeF M eo ev' hk hv hn hl K
/-! Calls that turn memory -/
theorem Mem.front {k : Nat} {e : Ent} (M : Mem h L) (hk : L[k]? = some e) : Mem h (e :: L.eraseIdx k) := by
  refine ⟨fun e' he' => ?_, ?_⟩
  · rcases List.mem_cons.1 he' with rfl | he'
    · exact M.at hk
    · exact M.ent e' ((List.eraseIdx_sublist ..).subset he')
  · refine List.pairwise_cons.2 ⟨fun e' he' => ?_, M.dis.sublist (List.eraseIdx_sublist ..)⟩
    obtain ⟨j, hj⟩ := List.getElem?_of_mem he'
    rw [List.getElem?_eraseIdx] at hj
    have hjk : ∃ j, j ≠ k ∧ L[j]? = some e' := by
      split at hj
      · exact ⟨j, by omega, hj⟩
      · exact ⟨j + 1, by omega, hj⟩
    obtain ⟨j, hne, hj⟩ := hjk
    exact pairwise_other M.dis hk hne hj
theorem mem_cnt1 {k : Nat} {v : PV} {es : List PV} (M : Mem h L) (hk : L[k]? = some ⟨v, ty, sz, es⟩) (hne : isL v = true) : cnt v = some 1 := by
  have hv := (M.atF hk).2
  cases v with
  | os id ver off n => rfl
  | fs t es' => rfl
  | sc u => rfl
  | _ => first | exact hv.elim | (simp [isL] at hne)
theorem rs_callXc {d : Nat} {f : Operand} {args : List Operand} {g : FuncId} {az0 cap : List PV} {v : PV} {h' : Heap} (ef : evE E f = some (.fn (.func g) [] cap)) (ea : evL E args = some az0) (H : FnX P g (az0 ++ cap) h v h') (k : RS P r S Q ((d, v) :: E) h') : RS P (⟨some d, .call f args, none, hf⟩ :: r) S Q E h := fun T hT =>
  ⟨T, h, Wk.refl T h, true, rfl, fun _ => .inr ⟨f, args, g, az0 ++ cap, v, h', rfl, by rw [evE_ok hT ef, evL_ok hT ea]; simp [callee], H, k _ (hT.put d v)⟩, fun e => by cases e⟩
theorem fnX {f : FuncId} {own : List Tmp} {n np : Nat} {ac : AC} {rs : List (Tmp × Option (Nat × Bool))} (X : FnText P f own n np ac rs) {args : List PV} {Φ : PV → Heap → Prop} (hn : args.length ≤ np)
    (H : RC P ac [] (retPost P rs Φ) (argE 0 args) h) : ∃ r h', FnX P f args h r h' ∧ Φ r h' := by
  refine FnX.mkE X Φ hn ?_
  exact H (args0 args) (argE_ag args 0 _ fun j a hj => by simp [args0, List.getD_eq_getElem?_getD, hj])
theorem rc_retX {rs : List (Tmp × Option (Nat × Bool))} {Φ : PV → Heap → Prop} {vs : List PV} (e : ResV E h rs vs) (hr : Φ (retV vs) h) : RC P .ret S (retPost P rs Φ) E h := fun T hT => by
  rw [x_ret]
  exact ⟨vs, e.ok hT, hr⟩
/-! Regions whose last operation is a call behind all others -/
def lastK (P : Program) (la : AOper) (S : List Fr) (Q : Post) : Fr := .loop fun T h => runS P [la] S Q T h
/-! Regions in which calls and what turns memory stand in one row -/
def runX (P : Program) (al : List AOper) (S : List Fr) (Q : Post) (T : Nat → PV) (h : Heap) : Prop := wpU P al T h (asPost P S Q .normal)
def RX (P : Program) (l : List AOper) (S : List Fr) (Q : Post) (E : TEnv) (h : Heap) : Prop := ∀ T, Ag E T → runX P l S Q T h
def bx (P : Program) (r : List AOper) (S : List Fr) (Q : Post) : Fr := .loop fun T h => runX P r S Q T h
end
end Go.Pb
