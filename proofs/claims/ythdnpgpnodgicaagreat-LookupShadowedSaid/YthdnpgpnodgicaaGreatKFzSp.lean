import Derived.Test.YthdnpgpnodgicaaGreatPbV
import Derived.Test.YthdnpgpnodgicaaGreatKTy
import Derived.Test.YthdnpgpnodgicaaGreatKTkPu
set_option linter.unusedVariables false
set_option linter.unusedSimpArgs false
set_option maxRecDepth 100000
namespace Go.Proofs.YthdnpgpnodgicaaGreat
open Go Go.Pb Go.RowKit
theorem bb5 {P : Program} {h : Heap} {L : List Ent} {E : TEnv} {S : List Fr} {Q : Post} {ty : TypeId} {sz k : Nat} {dd : Bool} {id ver n : Nat} {es : List PV} {l : List AOper} {E' : TEnv} (M : Mem h L) (hk : L[k]? = some ⟨.os id ver 0 n, ty, sz, es⟩) (hE : FrzE (.os id ver 0 n) (.fs false es) E E') (K : ∀ h', Mem h' (L.eraseIdx k) → RD P l S Q E' h') : RC P (.region dd l) S Q E h := by
 obtain ⟨hc, hn, cs, h1, h2⟩ := M.atF hk
 have hM : Mem (hput h id (.cells ver ty false cs)) (L.eraseIdx k) := by
  refine ⟨fun e he => ?_, M.dis.sublist (List.eraseIdx_sublist ..)⟩
  obtain ⟨j, hj⟩ := List.getElem?_of_mem he
  rw [List.getElem?_eraseIdx] at hj
  have hjk : ∃ j, j ≠ k ∧ L[j]? = some e := by
   split at hj
   ·exact ⟨j, by omega, hj⟩
   ·exact ⟨j + 1, by omega, hj⟩
  obtain ⟨j, hne, hj⟩ := hjk
  refine (M.ent e (List.mem_of_getElem? hj)).frame fun i hi _ => ?_
  have ha := lz M.dis hk hne hj
  exact iq h id i _ fun e' => ha i (by simp [idOf, e']) hi
 intro T hT
 refine .inr (.inr ⟨fun t => match Pb.look t E' with | some u => u | none => T t, hput h id (.cells ver ty false cs), ?_, K _ hM _ fun t u e => by simp only [e]⟩)
 intro w0 F0 n' z a R hTm
 obtain ⟨y, ew, eJ, Ex, hF, R'⟩ := R.freeze h2
 refine ⟨y, ew, Ex, R', hTm.size, fun t => ?_, hTm.defers⟩
 have h0 := VR_ext Ex (hTm.at_ t)
 split
 ·rename_i u hu
  obtain ⟨w, h3, h4⟩ := hE t u hu
  rw [hT t w h3] at h0
  have hb : ∀ us, VRC P y (.os id ver 0 n) us → VRC P y (.fs false es) us := fun us hv => by
   have hone : ∃ u, us = [u] := by
    simp only [VRC] at hv
    obtain ⟨b, cap, _, e, _⟩ := hv
    exact ⟨_, e⟩
   obtain ⟨u, rfl⟩ := hone
   exact VR_frozen (u := u) R' (ti h id _ (nk h2)) (fun b hj => hF b (by rw [← eJ]; exact hj)) hn h1 hc hv
  have := h4.agg_eq rfl
  unfold VR at h0 ⊢
  rw [← this]
  exact AsVal.imp (h4.conv hb) h0
 ·exact h0
theorem bh2 {P : Program} {h : Heap} {L : List Ent} {E : TEnv} {S : List Fr} {Q : Post} {ty : TypeId} {sz k : Nat} {dd : Bool} {v : PV} {es : List PV} {l : List AOper} {E' : PV → TEnv} (M : Mem h L) (hk : L[k]? = some ⟨v, ty, sz, es⟩) (hne : isL v = true) (hE : ∀ d, FrzE v d E (E' d)) (K : ∀ d h', IsSl d es → Mem h' (L.eraseIdx k) → RD P l S Q (E' d) h') : RC P (.region dd l) S Q E h := by
 have hv := (M.atF hk).2
 have same : FrzE v v E (E' v) → IsSl v es → RC P (.region dd l) S Q E h := by
  intro hf hs
  refine ah fun T hT => K v h hs (M.sub (List.eraseIdx_sublist ..)) T fun t u e => ?_
  obtain ⟨w, h1, h2⟩ := hf t u e
  have key : ∀ {w u : PV}, FrzV v v w u → w = u := by
   intro w u h
   have : ∀ {w u : PV}, FrzV v v w u → w = u := fun h => by
    refine FrzV.rec (v := v) (d := v) (motive_1 := fun w u _ => w = u) (motive_2 := fun cs ds _ => cs = ds) (fun _ => rfl) rfl (fun _ e => by rw [e]) rfl (fun _ _ e1 e2 => by rw [e1, e2]) h
   exact this h
  rw [← key h2]
  exact hT t w h1
 cases v with
 | os id ver off n =>
   cases off with
   | zero => exact bb5 M hk (hE _) fun h' M' => K _ h' (.inr ⟨false, rfl⟩) M'
   | succ off => exact hv.elim
 | fs t es' =>
   cases t with
   | true => have e : es' = es := hv; exact same (hE _) (.inr ⟨true, by rw [e]⟩)
   | false => exact hv.elim
 | sc u =>
   unfold EntV at hv
   split at hv <;> first | exact hv.elim | skip
   all_goals first | (rename_i heq; cases heq; exact same (hE _) (.inl ⟨_, rfl, hv⟩)) | (rename_i heq; cases heq)
 | _ => first | exact hv.elim | (simp [isL] at hne)
theorem ag7 {P : Program} {E : TEnv} {h : Heap} {hf : Bool} {x i : Operand} {id ver off len sz : Nat} {agg : Bool} {k : Int} (ex : evE E x = some (.op id ver off)) (ei : evE E i = some (vi k)) (h0 : 0 ≤ k) (h1 : k < len) : OV P (.iaddrA len sz agg x i) hf E h (.op id ver (off + k.toNat * sz)) :=
 ⟨rfl, fun T hT => by
   simp only [opQ, dw hT ex, dw hT ei]
   rw [if_pos ⟨h0, h1⟩]⟩
theorem dy1 {P : Program} {n : Int} {t : TypeId} {ox oy : Operand} : binF P .neq t ox oy (vi n) (vi n) = some (vb false) := by
 have := jq (P := P) (t := t) (ox := ox) (oy := oy) (a := n) (b := n)
 rwa [decide_eq_true rfl] at this
theorem ci8 (p : ab) (r : cp) : 0 ≤ iv p r ∧ iv p r ≤ 32 := by
 have key : ∀ l : List ck, 0 ≤ (if (((((decide (r.Header < (-1))) || (decide (r.Field < 0))) || (decide ((l.length : Int) ≤ r.Field))) || (decide (((ix l r.Field).Width) < 1))) || (decide (32 < ((ix l r.Field).Width)))) = true then (0 : Int) else (ix l r.Field).Width) ∧ (if (((((decide (r.Header < (-1))) || (decide (r.Field < 0))) || (decide ((l.length : Int) ≤ r.Field))) || (decide (((ix l r.Field).Width) < 1))) || (decide (32 < ((ix l r.Field).Width)))) = true then (0 : Int) else (ix l r.Field).Width) ≤ 32 := by
  intro l
  split
  ·omega
  ·rename_i h
   simp only [Bool.or_eq_true, decide_eq_true_eq, not_or] at h
   omega
 unfold iv
 simp only [LET]
 split
 ·split
  ·omega
  ·exact key _
 ·exact key _
theorem rwp {p : ab} {t i : Int} {w : List Int} (h : du p t = w) (h0 : 0 ≤ i) (h1 : i < w.length) : 0 ≤ ix w i ∧ ix w i ≤ 32 := by
 subst h
 rw [pw] at h1 ⊢
 split at h1
 ·rename_i h
  rw [if_pos h]
  rw [tp] at h1
  rw [ak6 h0 h1]
  exact ci8 _ _
 ·simp at h1; omega
theorem bf8 (y : aa) : ∀ (m : Nat) (i : Int) (z : List aa) (c : aa), m = Int.toNat (i + 1) → -1 ≤ i → i ≤ 63 → (fx y (fun z _ => z) m i z c).length ≤ z.length + m
 | 0, i, z, c, hm, h0, h1 => Nat.le_refl _
 | m + 1, i, z, c, hm, h0, h1 => by
   rw [fx]
   have e : wr (i - 1) = i - 1 := dg (by omega) (by omega)
   rw [e]
   split
   ·split
    ·have := bf8 y m (i - 1) (z ++ [{ Value := c.Value ||| ((y.Value &&& (1#64 <<< (BitVec.ofInt 64 i).toNat)) ^^^ (1#64 <<< (BitVec.ofInt 64 i).toNat)), Mask := c.Mask ||| (1#64 <<< (BitVec.ofInt 64 i).toNat) }]) ({ Value := c.Value ||| (y.Value &&& (1#64 <<< (BitVec.ofInt 64 i).toNat)), Mask := c.Mask ||| (1#64 <<< (BitVec.ofInt 64 i).toNat) }) (by omega) (by omega) (by omega)
     rw [List.length_append, List.length_singleton] at this
     omega
    ·have := bf8 y m (i - 1) z c (by omega) (by omega) (by omega)
     omega
   ·omega
theorem s07 {a b : aa} {w : Int} {l : List aa} (h : ni a b w = l) : l.length ≤ 64 := by
 subst h
 unfold ni
 simp only [LET]
 split
 ·simp
 ·rename_i hw
  simp only [Bool.or_eq_true, decide_eq_true_eq, not_or] at hw
  have e : wr (w - 1) = w - 1 := dg (by omega) (by omega)
  split
  ·simp
  ·split
   ·simp
   ·rw [e]
    have := bf8 (me b w) (Int.toNat (w - 1 + 1)) (w - 1) [] (me a w) rfl (by omega) (by omega)
    rw [List.length_nil] at this
    omega
theorem stp {l : List aa} {q : List aa × Int} (h : ki l = q) : q.1.length ≤ 1024 := by
 subst h
 unfold ki
 simp only [LET]
 split
 ·simp
 ·rename_i hc
  simp only [decide_eq_true_eq] at hc
  show (na l).length ≤ 1024
  omega
theorem dk1 {p : ab} {t : Int} {l : List av} {e : Int} (h : gz p t l = e) (he : e = 0) : 0 ≤ t ∧ t < p.Tables.length := by
 subst h
 unfold gz at he
 simp only [LET] at he
 split at he
 ·rename_i hc
  simp at hc
  exact absurd he hc
 ·rename_i hc
  simp only [Bool.not_eq_true', decide_eq_false_iff_not, Decidable.not_not] at hc
  exact (ab3 hc).1
theorem cf1 (l : List Int) (n : Int) (K : Int → List Int) : ∀ (m : Nat) (i : Int), m = Int.toNat ((l.length : Int) - i) → 0 ≤ i → i ≤ l.length → ∃ j : Int, i ≤ j ∧ j ≤ l.length ∧ mg l n K m i = K j ∧ (∀ k : Int, i ≤ k → k < j → ix l k < n) ∧ (j < l.length → n ≤ ix l j)
 | 0, i, hm, h0, h1 => ⟨i, Int.le_refl i, h1, rfl, fun k h2 h3 => by omega, fun h => by omega⟩
 | m + 1, i, hm, h0, h1 => by
   rw [mg]
   by_cases hc : ix l i < n
   ·rw [if_pos (by simp only [Bool.and_eq_true, decide_eq_true_eq]; omega)]
    obtain ⟨j, h2, h3, h4, h5, h6⟩ := cf1 l n K m (i + 1) (by omega) (by omega) (by omega)
    refine ⟨j, by omega, h3, h4, fun k h7 h8 => ?_, h6⟩
    by_cases hk : k = i
    ·subst hk; exact hc
    ·exact h5 k (by omega) h8
   ·rw [if_neg (by simp only [Bool.and_eq_true, decide_eq_true_eq]; omega)]
    exact ⟨i, Int.le_refl i, h1, rfl, fun k h2 h3 => by omega, fun _ => by omega⟩
theorem bi4 (l : List Int) (n : Int) : ∃ j : Nat, j ≤ l.length ∧ nu l n = l.take j ++ n :: l.drop j ∧ (∀ k : Int, 0 ≤ k → k < j → ix l k < n) ∧ ((j : Int) < l.length → n ≤ ix l j) := by
 obtain ⟨j, h1, h2, h3, h4, h5⟩ := cf1 l n (fun x => ((sub l 0 x) ++ [n]) ++ (sub l x (l.length : Int))) _ 0 rfl (by omega) (by omega)
 refine ⟨j.toNat, by omega, ?_, fun k h6 h7 => h4 k h6 (by omega), fun h6 => ?_⟩
 ·unfold nu
  rw [h3]
  unfold sub
  rw [show Int.toNat 0 = 0 from rfl, List.drop_zero, Nat.sub_zero, List.append_assoc, List.take_of_length_le (l := l.drop j.toNat) (by rw [List.length_drop]; omega)]
  rfl
 ·rw [Int.toNat_of_nonneg h1] at h6 ⊢
  exact h5 h6
theorem insl {l : List Int} {n : Int} {w : List Int} (h : nu l n = w) : w.length ≤ l.length + 1 := by
 subst h
 obtain ⟨j, h1, h2, _⟩ := bi4 l n
 rw [h2, List.length_append, List.length_cons, List.length_take, List.length_drop]
 omega
theorem dw1 {x : co} (h : kb x = false) : x.Program.Tables.length ≤ 16 ∧ x.Rows.length ≤ 30 ∧ x.Key.length ≤ 20 := by
 unfold kb at h
 simp only [LET] at h
 split at h
 ·cases h
 ·rename_i hc
  simp only [Bool.or_eq_true, decide_eq_true_eq, not_or] at hc
  refine ⟨?_, by omega, by omega⟩
  have h2 : ou x.Program = false := by simpa using hc.1.1
  unfold ou at h2
  split at h2
  ·cases h2
  ·rename_i hd
   simp only [Bool.or_eq_true, decide_eq_true_eq, not_or] at hd
   omega
theorem tlb {x : co} {y : Bool} (h : kb x = y) (hy : y = false) : x.Program.Tables.length ≤ 16 ∧ x.Rows.length ≤ 30 ∧ x.Key.length ≤ 20 := dw1 (by rw [h, hy])
end Go.Proofs.YthdnpgpnodgicaaGreat
