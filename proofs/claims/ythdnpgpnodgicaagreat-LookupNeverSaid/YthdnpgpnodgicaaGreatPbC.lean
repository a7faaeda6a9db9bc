import Derived.Test.YthdnpgpnodgicaaGreatPbK
set_option linter.all false
namespace Go.Pb
open Go Go.RowKit
section
variable {P : Program} {S : List Fr} {Q : Post} {E : TEnv} {h : Heap} {hf : Bool} {L : List Ent} {r : List AOper} {ty : TypeId} {sz : Nat}
def sub {α : Type} (l : List α) (a b : Int) : List α := (l.drop a.toNat).take (b.toNat - a.toNat)
theorem All2.drop {α : Type} {R : α → PV → Prop} : ∀ {l : List α} {es : List PV} (k : Nat), All2 R l es → All2 R (l.drop k) (es.drop k)
 | _, _, 0, h => h
 | [], [], k + 1, h => by simpa using h
 | a :: l, e :: es, k + 1, h => by simpa using All2.drop k h.2
 | [], _ :: _, _ + 1, h => by simp [All2] at h
 | _ :: _, [], _ + 1, h => by simp [All2] at h
theorem All2.take {α : Type} {R : α → PV → Prop} : ∀ {l : List α} {es : List PV} (k : Nat), All2 R l es → All2 R (l.take k) (es.take k)
 | _, _, 0, h => by simp [All2]
 | [], [], k + 1, h => by simpa using h
 | a :: l, e :: es, k + 1, h => by simpa [All2] using ⟨h.1, All2.take k h.2⟩
 | [], _ :: _, _ + 1, h => by simp [All2] at h
 | _ :: _, [], _ + 1, h => by simp [All2] at h
def Bnd (E : TEnv) (d : Int) (o : Option Operand) (a : Int) : Prop := match o with
 | none => a = d
 | some o => evE E o = some (vi a)
theorem Bnd.eq {E : TEnv} {T : Nat → PV} {d : Nat} {o : Option Operand} {a : Int} (H : Bnd E d o a) (hT : Ag E T) (h0 : 0 ≤ a) : boundF T d o = some a.toNat := by
 cases o with
 | none => have e : a = d := H; subst e; simp [boundF]
 | some o => have e : evE E o = some (vi a) := H; simp [boundF, dy hT e, h0]
theorem fnX {f : FuncId} {own : List Tmp} {n np : Nat} {ac : AC} {rs : List (Tmp × Option (Nat × Bool))} (X : FnText P f own n np ac rs) {args : List PV} {Φ : PV → Heap → Prop} (hn : args.length ≤ np)
 (H : RC P ac [] (retPost P rs Φ) (argE 0 args) h) : ∃ r h', FnX P f args h r h' ∧ Φ r h' := by
 refine FnX.mkE X Φ hn ?_
 exact H (vj args) (av6 args 0 _ fun j a hj => by simp [vj, List.getD_eq_getElem?_getD, hj])
theorem ub {rs : List (Tmp × Option (Nat × Bool))} {Φ : PV → Heap → Prop} {vs : List PV} (e : ResV E h rs vs) (hr : Φ (retV vs) h) : RC P .ret S (retPost P rs Φ) E h := fun T hT => by
 rw [co2]
 exact ⟨vs, e.ok hT, hr⟩
theorem dc4 {rs : List (Tmp × Option (Nat × Bool))} {Φ : PV → Heap → Prop} {vs : List PV} (e : ResV E h rs vs) (hr : Φ (retV vs) h) : PN P [] (retPost P rs Φ) E h := fun T hT => by
 rw [df7]
 exact ⟨vs, e.ok hT, hr⟩
def lastK (P : Program) (la : AOper) (S : List Fr) (Q : Post) : Fr := .loop fun T h => runS P [la] S Q T h
theorem bv0 {d : Nat} {o o' : Operand} {z : Value} {zs : List PV} {zz : PV} {b : Nat} {m : Int} (M : Mem h L) (h0 : 0 ≤ m) (e1 : evE E o = some (vi m)) (e2 : evE E o' = some (vi m)) (ez : z.cells.toList.map PV.sc = zs) (hz : zz.cellsOf = some zs) (hc : cnt zz = some sz) (hf' : fits m.toNat b = true)
 (K : ∀ id ver h', Mem h' (⟨.os id ver 0 m.toNat, ty, sz, List.replicate m.toNat zz⟩ :: L) → RD P r S Q ((d, .os id ver 0 m.toNat) :: E) h') : RD P (⟨some d, .mkSlice ty sz b z o o', none, hf⟩ :: r) S Q E h := by
 have e : vi m = .sc (.int .i64 ((m.toNat : Nat) : Int)) := by rw [Int.toNat_of_nonneg h0]
 rw [e] at e1 e2
 exact bv9 M e1 e2 ez hz hc hf' K
def runX (P : Program) (al : List AOper) (S : List Fr) (Q : Post) (T : Nat → PV) (h : Heap) : Prop := wpU P al T h (asPost P S Q .normal)
def RX (P : Program) (l : List AOper) (S : List Fr) (Q : Post) (E : TEnv) (h : Heap) : Prop := ∀ T, Ag E T → runX P l S Q T h
theorem an7 {al : List AOper} (k : RX P al S Q E h) : RC P (.regionU al) S Q E h := k
theorem cp0 (k : PN P S Q E h) : RX P [] S Q E h := k
def bx (P : Program) (r : List AOper) (S : List Fr) (Q : Post) : Fr := .loop fun T h => runX P r S Q T h
theorem cj6 {o : AOper} {K : (Nat → PV) → Heap → Prop} {T : Nat → PV} (H : wpD P [o] T h fun T h => wpU P r T h K) : wpU P (o :: r) T h K := by
 obtain ⟨g, hg', h1, h2⟩ := H
 exact ⟨g, hg', fun e => .inl (h1 e), h2⟩
theorem jb {d : Option Tmp} {op : AOp} {gd : Option (Tmp × Bool)} (k : RD P [⟨d, op, gd, hf⟩] (bx P r S Q :: S) Q E h) : RX P (⟨d, op, gd, hf⟩ :: r) S Q E h := fun T hT => cj6 (k T hT)
theorem iz (k : RX P r S Q E h) : RD P [] (bx P r S Q :: S) Q E h := k
theorem bv2 {d : Nat} {f : Operand} {args : List Operand} {g : FuncId} {as cap : List PV} {v : PV} {h' : Heap} (ef : evE E f = some (.fn (.func g) [] cap)) (ea : evL E args = some as) (H : FnX P g (as ++ cap) h v h') (k : RX P r S Q ((d, v) :: E) h') : RX P (⟨some d, .call f args, none, hf⟩ :: r) S Q E h := fun T hT =>
 ⟨true, rfl, fun _ => .inr (.inl ⟨f, args, g, as ++ cap, v, h', rfl, by rw [dy hT ef, wa hT ea]; simp [callee], H, k _ (hT.put d v)⟩), (fun e => by cases e)⟩
theorem ak3 {k : Nat} {id ver : Nat} {x : PV} {l : List AOper} {E' : TEnv} (M : Mem h L) (hk : L[k]? = some ⟨.op id ver 0, ty, sz, [x]⟩) (hE : FrzE (.op id ver 0) (.fp x) E E') (K : ∀ h', Mem h' (L.eraseIdx k) → RS P l S Q E' h') : RS P l S Q E h := by
 obtain ⟨hc, x', cs, h1, h2, h3⟩ := M.atF hk
 simp only [List.cons.injEq, and_true] at h1
 subst h1
 have hM : Mem (hput h id (.cells ver ty false cs)) (L.eraseIdx k) := by
  refine ⟨fun e he => ?_, M.dis.sublist (List.eraseIdx_sublist ..)⟩
  obtain ⟨j, hj⟩ := List.getElem?_of_mem he
  rw [List.getElem?_eraseIdx] at hj
  have hjk : ∃ j, j ≠ k ∧ L[j]? = some e := by
   split at hj
   ·exact ⟨j, by omega, hj⟩
   ·exact ⟨j + 1, by omega, hj⟩
  obtain ⟨j, hne, hj⟩ := hjk
  refine (M.ent e (List.mem_of_getElem? hj)).frame fun i hi _ => ?_
  have ha := mj M.dis hk hne hj
  exact je h id i _ fun e' => ha i (by simp [idOf, e']) hi
 intro T hT
 refine av1 (T' := fun t => match look t E' with | some u => u | none => T t) (h' := hput h id (.cells ver ty false cs)) ?_ (K _ hM _ fun t u e => by simp only [e])
 intro w0 F0 n' z a R hTm
 obtain ⟨y, ew, eJ, Ex, hF, R'⟩ := R.freeze h3
 refine ⟨y, ew, Ex, R', hTm.size, fun t => ?_, hTm.defers⟩
 have h0 := VR_ext Ex (hTm.at_ t)
 split
 ·rename_i u hu
  obtain ⟨w, h5, h4⟩ := hE t u hu
  rw [hT t w h5] at h0
  have hb : ∀ us, VRC P y (.op id ver 0) us → VRC P y (.fp x) us := fun us hv => by
   have hone : ∃ u, us = [u] := by
    simp only [VRC] at hv
    obtain ⟨b, _, e⟩ := hv
    exact ⟨_, e⟩
   obtain ⟨u, rfl⟩ := hone
   exact VR_frozenp (u := u) R' (tw h id _ (mr h3)) (fun b hj => hF b (by rw [← eJ]; exact hj)) h2 hv
  have := h4.agg_eq rfl
  unfold VR at h0 ⊢
  rw [← this]
  exact AsVal.imp (h4.conv hb) h0
 ·exact h0
end
end Go.Pb
