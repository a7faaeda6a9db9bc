/-
  Hand-written texts in one.
-/
import Derived.Test.YtnejfbehaembkaaL4Text
import Derived.Test.YtnejfbehaembkaaL4TextA
import Derived.Test.YtnejfbehaembkaaKTy
import Derived.Test.YtnejfbehaembkaaPbV
import Derived.Test.YtnejfbehaembkaaKDef
import Derived.Test.YtnejfbehaembkaaPbV
import Derived.Test.YtnejfbehaembkaaPbV
set_option linter.unusedVariables false
set_option linter.unusedSimpArgs false
set_option maxRecDepth 100000
namespace Go.Proofs.Ytnejfbehaembkaa
open Go Go.Pb Go.RowKit
theorem ceq29 {ox oy : Operand} {a b : api_FieldRef} {va vb' : PV} (ra : api_FieldRef.t.R a va) (rb : api_FieldRef.t.R b vb') : binF Try.prog .eql 60 ox oy va vb' = some (vb (decide (a = b))) := api_FieldRef.eql_60 ra rb
theorem cne29 {ox oy : Operand} {a b : api_FieldRef} {va vb' : PV} (ra : api_FieldRef.t.R a va) (rb : api_FieldRef.t.R b vb') : binF Try.prog .neq 60 ox oy va vb' = some (vb (!decide (a = b))) := api_FieldRef.neq_60 ra rb
def RF29 (R_ : List Ent) (res : List api_FieldRef) (r : PV) (h : Heap) : Prop := ∃ a : PV, ∃ es : List PV, Mem h (⟨a, 60, 2, es⟩ :: R_) ∧ All2 api_FieldRef.t.R res es ∧ isL a = true ∧ res.length ≤ 4611686018427387904 ∧ Wri a es ∧ r = a
theorem c29_L2 {S : List Fr} {R_ : List Ent} {l : List api_FieldRef} {id ver n k0 : Nat} (hn : l.length = n) (hbig : n ≤ 4611686018427387904) (h0 : 1 ≤ k0)
    (hK : ∀ (h : Heap) (dk : List api_FieldRef) (es : List PV) (kk : Nat), Mem h (⟨.os id ver 0 n, 60, 2, es⟩ :: R_) → All2 api_FieldRef.t.R dk es → dk.length = n → 1 ≤ kk → kk < n → dk.take kk = cpF l n → PX Try.prog 2 S (retPost Try.prog [(2, none)] (RF29 R_ (cpt l))) [(3, vi (kk : Int)), (0, .os id ver 0 n)] h) :
    ∀ (f : Nat) (k2 kk : Nat) (dk : List api_FieldRef) (es : List PV) (h : Heap), f = n - (k0 + k2) → 1 ≤ k2 → k0 + k2 ≤ n → 1 ≤ kk → kk < k0 + k2 → Mem h (⟨.os id ver 0 n, 60, 2, es⟩ :: R_) → All2 api_FieldRef.t.R dk es → dk.length = n → dk.take kk = cpF l (k0 + k2) → (∀ j : Nat, kk ≤ j → j < n → ix dk (j : Int) = ix l (j : Int)) →
      RC Try.prog (.loop ac29_L2) S (retPost Try.prog [(2, none)] (RF29 R_ (cpt l))) [(5, vi (k2 : Int)), (4, .os id ver (0 + k0 * 2) (n - k0)), (3, vi (kk : Int)), (0, .os id ver 0 n)] h := by
  intro f
  induction f with
  | zero =>
    intro k2 kk dk es h hf h1 hle hk1 hkm M q hlen hcp hix
    refine rc_loop ?_
    unfold ac29_L2
    refine rc_seq ?_
    refine rc_seq ?_
    refine rc_region ?_
    refine rd_op (ov_move rfl) ?_
    refine rd_op (ov_move rfl) ?_
    refine rd_op (v := vi ((n - k0 : Nat) : Int)) (ov_bi rfl (osl_len Try.underlying52 _)) ?_
    refine rd_op (ov_bin rfl rfl i_lss) ?_
    refine rd_nil ?_
    refine pn_seq ?_
    refine rc_cond rfl (fun hc => ?_) (fun hc => ?_)
    · exfalso
      simp only [decide_eq_true_eq] at hc
      omega
    · refine rc_exit ?_
      refine px_seq ?_
      refine px_again ?_
      refine px_weak (sub_cons rfl (sub_cons rfl (sub_nil _))) (hK h dk es kk M q hlen hk1 (by omega) (by rw [hcp]; congr 1; omega))
  | succ f ih =>
    intro k2 kk dk es h hf h1 hle hk1 hkm M q hlen hcp hix
    have hlt : k0 + k2 < n := by omega
    have bsub : ∀ ox oy, binF Try.prog .sub 3 ox oy (vi (k2 : Int)) (vi 1) = some (vi ((k2 - 1 : Nat) : Int)) := fun ox oy => by
      have hw : wr ((k2 : Int) - 1) = ((k2 - 1 : Nat) : Int) := by rw [wr_of (by omega) (by omega)]; omega
      rw [← hw]; exact i_sub
    have badd : ∀ (z : Nat), z ≤ n → ∀ ox oy, binF Try.prog .add 3 ox oy (vi (z : Int)) (vi 1) = some (vi ((z + 1 : Nat) : Int)) := fun z hz ox oy => by
      have hw : wr ((z : Int) + 1) = ((z + 1 : Nat) : Int) := by rw [wr_of (by omega) (by omega)]; omega
      rw [← hw]; exact i_add
    have ad : ∀ z : Nat, z < n - k0 → idxR 2 (.os id ver (0 + k0 * 2) (n - k0)) (vi (z : Int)) = some (.op id ver (0 + (k0 + z) * 2)) := fun z hz => by
      have he : 0 + k0 * 2 + (z : Int).toNat * 2 = 0 + (k0 + z) * 2 := by rw [Int.toNat_natCast]; omega
      rw [← he]; exact n_idx 2 (by omega) (by omega)
    obtain ⟨v1, e1, r1⟩ := elem_at (i := ((k0 + k2 : Nat) : Int)) q (by omega) (by omega)
    obtain ⟨v2, e2, r2⟩ := elem_at (i := ((k0 + (k2 - 1) : Nat) : Int)) q (by omega) (by omega)
    rw [Int.toNat_natCast] at e1 e2
    rw [hix _ (by omega) hlt] at r1
    rw [hix _ (by omega) (by omega)] at r2
    have hm1 : ((k0 + (k2 - 1) : Nat) : Int) = ((k0 + k2 : Nat) : Int) - 1 := by omega
    rw [hm1] at r2
    refine rc_loop ?_
    unfold ac29_L2
    refine rc_seq ?_
    refine rc_seq ?_
    refine rc_region ?_
    refine rd_op (ov_move rfl) ?_
    refine rd_op (ov_move rfl) ?_
    refine rd_op (v := vi ((n - k0 : Nat) : Int)) (ov_bi rfl (osl_len Try.underlying52 _)) ?_
    refine rd_op (ov_bin rfl rfl i_lss) ?_
    refine rd_nil ?_
    refine pn_seq ?_
    refine rc_cond rfl (fun hc => ?_) (fun hc => ?_)
    · refine rc_skip ?_
      refine pn_seq ?_
      refine rc_seq ?_
      refine rc_block ?_
      refine rc_seq ?_
      refine rc_region ?_
      refine rd_op (ov_move rfl) ?_
      refine rd_op (ov_move rfl) ?_
      refine rd_op (ov_iaddr rfl rfl (ad k2 (by omega))) ?_
      refine rd_op (ov_elem (k := 0) M rfl rfl e1 (TR.agg api_FieldRef.t r1)) ?_
      refine rd_op (ov_move rfl) ?_
      refine rd_op (ov_move rfl) ?_
      refine rd_op (ov_bin rfl rfl (bsub _ _)) ?_
      refine rd_op (ov_iaddr rfl rfl (ad (k2 - 1) (by omega))) ?_
      refine rd_op (ov_elem (k := 0) M rfl rfl e2 (TR.agg api_FieldRef.t r2)) ?_
      refine rd_op (ov_bin rfl rfl (cne29 r1 r2)) ?_
      refine rd_nil ?_
      refine pn_seq ?_
      refine rc_cond rfl (fun hd => ?_) (fun hd => ?_)
      · simp only [Bool.not_eq_true', decide_eq_false_iff_not] at hd
        refine rc_seq ?_
        refine rc_region ?_
        refine rd_op (ov_move rfl) ?_
        refine rd_op (ov_move rfl) ?_
        refine rd_op (ov_move rfl) ?_
        refine rd_op (ov_move rfl) ?_
        refine rd_op (ov_iaddr rfl rfl (ad k2 (by omega))) ?_
        refine rd_op (ov_elem (k := 0) M rfl rfl e1 (TR.agg api_FieldRef.t r1)) ?_
        refine rd_op (v := .op id ver (0 + kk * 2)) (ov_iaddr rfl rfl (n_idx 2 (by omega) (by omega))) ?_
        refine rd_setO (k := 0) (i := kk) (v := v1) M rfl rfl rfl (by rw [All2.length_eq q]; omega) (TR.cnt api_FieldRef.t r1) (fun h2 M2 => ?_)
        replace M2 : Mem h2 (⟨.os id ver 0 n, 60, 2, es.set kk v1⟩ :: R_) := M2
        refine rd_nil ?_
        refine pn_seq ?_
        refine rc_region ?_
        refine rd_op (ov_move rfl) ?_
        refine rd_op (ov_bin rfl rfl (badd kk (by omega) _ _)) ?_
        refine rd_op (ov_move rfl) ?_
        refine rd_nil ?_
        refine pn_blk ?_
        refine pn_seq ?_
        refine rc_region ?_
        refine rd_op (ov_move rfl) ?_
        refine rd_op (ov_bin rfl rfl (badd k2 (by omega) _ _)) ?_
        refine rd_op (ov_move rfl) ?_
        refine rd_nil ?_
        refine pn_again ?_
        have q2 : All2 api_FieldRef.t.R (dk.set kk (ix l ((k0 + k2 : Nat) : Int))) (es.set kk v1) := q.set r1
        refine rc_weak ?_ (ih (k2 + 1) (kk + 1) (dk.set kk (ix l ((k0 + k2 : Nat) : Int))) (es.set kk v1) h2 (by omega) (by omega) (by omega) (by omega) (by omega) M2 q2 (by simp [hlen]) ?_ ?_)
        · exact (sub_cons rfl (sub_cons rfl (sub_cons rfl (sub_cons rfl (sub_nil _)))))
        · rw [show k0 + (k2 + 1) = (k0 + k2) + 1 by omega, cpF_new (.inr hd), ← hcp, List.take_add_one, List.getElem?_set_self (by omega), List.take_set_of_le (Nat.le_refl _)]
          rfl
        · intro j hj hjn
          have hs : ∀ x : api_FieldRef, ix (dk.set kk x) (j : Int) = ix dk (j : Int) := fun x => by
            simp only [ix, Int.toNat_natCast, List.getD_eq_getElem?_getD]
            rw [List.getElem?_set_ne (by omega)]
          rw [hs]
          exact hix j (by omega) hjn
      · simp only [Bool.not_eq_false', decide_eq_true_eq] at hd
        refine rc_skip ?_
        refine pn_blk ?_
        refine pn_seq ?_
        refine rc_region ?_
        refine rd_op (ov_move rfl) ?_
        refine rd_op (ov_bin rfl rfl (badd k2 (by omega) _ _)) ?_
        refine rd_op (ov_move rfl) ?_
        refine rd_nil ?_
        refine pn_again ?_
        refine rc_weak ?_ (ih (k2 + 1) kk dk es h (by omega) (by omega) (by omega) hk1 (by omega) M q hlen ?_ hix)
        · exact (sub_cons rfl (sub_cons rfl (sub_cons rfl (sub_cons rfl (sub_nil _)))))
        · rw [show k0 + (k2 + 1) = (k0 + k2) + 1 by omega, cpF_old (by omega) hd]
          exact hcp
    · exfalso
      simp only [decide_eq_false_iff_not] at hc
      omega
theorem c29_L1 {R_ : List Ent} {l : List api_FieldRef} {es : List PV} {id ver n : Nat} {h : Heap} {S : List Fr} (hn : l.length = n) (hbig : n ≤ 4611686018427387904) (q : All2 api_FieldRef.t.R l es) (M : Mem h (⟨.os id ver 0 n, 60, 2, es⟩ :: R_))
    (hK0 : PX Try.prog 0 S (retPost Try.prog [(2, none)] (RF29 R_ l)) [(0, .os id ver 0 n)] h) :
    ∀ (f k : Nat), f = n - k → 1 ≤ k → k ≤ n → cpF l k = l.take k → RC Try.prog (.loop ac29_L1) S (retPost Try.prog [(2, none)] (RF29 R_ (cpt l))) [(3, vi (k : Int)), (0, .os id ver 0 n)] h := by
  intro f
  induction f with
  | zero =>
    intro k hf h1 hle hcp
    have hkn : k = n := by omega
    subst hkn
    have hc : cpt l = l := by unfold cpt; rw [hn, hcp]; exact List.take_of_length_le (by omega)
    refine rc_loop ?_
    unfold ac29_L1
    refine rc_seq ?_
    refine rc_seq ?_
    refine rc_region ?_
    refine rd_op (ov_move rfl) ?_
    refine rd_op (ov_move rfl) ?_
    refine rd_op (v := vi ((k : Nat) : Int)) (ov_bi rfl (osl_len Try.underlying52 _)) ?_
    refine rd_op (ov_bin rfl rfl i_lss) ?_
    refine rd_nil ?_
    refine pn_seq ?_
    refine rc_cond rfl (fun hc => ?_) (fun hc => ?_)
    · exfalso
      simp only [decide_eq_true_eq] at hc
      omega
    · refine rc_exit ?_
      refine px_seq ?_
      refine px_again ?_
      rw [‹cpt l = l›]
      exact px_weak (sub_cons rfl (sub_nil _)) hK0
  | succ f ih =>
    intro k hf h1 hle hcp
    have hlt : k < n := by omega
    have bsub : ∀ ox oy, binF Try.prog .sub 3 ox oy (vi (k : Int)) (vi 1) = some (vi ((k - 1 : Nat) : Int)) := fun ox oy => by
      have hw : wr ((k : Int) - 1) = ((k - 1 : Nat) : Int) := by rw [wr_of (by omega) (by omega)]; omega
      rw [← hw]; exact i_sub
    have badd : ∀ ox oy, binF Try.prog .add 3 ox oy (vi (k : Int)) (vi 1) = some (vi ((k + 1 : Nat) : Int)) := fun ox oy => by
      have hw : wr ((k : Int) + 1) = ((k + 1 : Nat) : Int) := by rw [wr_of (by omega) (by omega)]; omega
      rw [← hw]; exact i_add
    obtain ⟨v1, e1, r1⟩ := elem_at (i := (k : Int)) q (by omega) (by omega)
    obtain ⟨v2, e2, r2⟩ := elem_at (i := ((k - 1 : Nat) : Int)) q (by omega) (by omega)
    rw [Int.toNat_natCast] at e1 e2
    have hm1 : ((k - 1 : Nat) : Int) = (k : Int) - 1 := by omega
    rw [hm1] at r2
    refine rc_loop ?_
    unfold ac29_L1
    refine rc_seq ?_
    refine rc_seq ?_
    refine rc_region ?_
    refine rd_op (ov_move rfl) ?_
    refine rd_op (ov_move rfl) ?_
    refine rd_op (v := vi ((n : Nat) : Int)) (ov_bi rfl (osl_len Try.underlying52 _)) ?_
    refine rd_op (ov_bin rfl rfl i_lss) ?_
    refine rd_nil ?_
    refine pn_seq ?_
    refine rc_cond rfl (fun hc => ?_) (fun hc => ?_)
    · refine rc_skip ?_
      refine pn_seq ?_
      refine rc_seq ?_
      refine rc_block ?_
      refine rc_seq ?_
      refine rc_region ?_
      refine rd_op (ov_move rfl) ?_
      refine rd_op (ov_move rfl) ?_
      refine rd_op (v := .op id ver (0 + k * 2)) (ov_iaddr rfl rfl (n_idx 2 (by omega) (by omega))) ?_
      refine rd_op (ov_elem (k := 0) M rfl rfl e1 (TR.agg api_FieldRef.t r1)) ?_
      refine rd_op (ov_move rfl) ?_
      refine rd_op (ov_move rfl) ?_
      refine rd_op (ov_bin rfl rfl (bsub _ _)) ?_
      refine rd_op (v := .op id ver (0 + (k - 1) * 2)) (ov_iaddr rfl rfl (n_idx 2 (by omega) (by omega))) ?_
      refine rd_op (ov_elem (k := 0) M rfl rfl e2 (TR.agg api_FieldRef.t r2)) ?_
      refine rd_op (ov_bin rfl rfl (ceq29 r1 r2)) ?_
      refine rd_nil ?_
      refine pn_seq ?_
      refine rc_cond rfl (fun hd => ?_) (fun hd => ?_)
      · simp only [decide_eq_true_eq] at hd
        refine rc_seq ?_
        refine rc_region ?_
        refine rd_op (ov_move rfl) ?_
        refine rd_op (ov_move rfl) ?_
        refine rd_op (v := .os id ver (0 + k * 2) (n - k)) (ov_sliceO (a := (k : Int)) (b := (n : Int)) rfl rfl rfl (by omega) (by omega) (by omega) (by decide)) ?_
        refine rd_op (ov_move rfl) ?_
        refine rd_nil ?_
        refine pn_seq ?_
        refine rc_seq ?_
        refine rc_seq ?_
        refine rc_region ?_
        refine rd_op (v := vi ((1 : Nat) : Int)) (ov_move rfl) ?_
        refine rd_nil ?_
        refine pn_seq ?_
        refine rc_block ?_
        have hcp1 : cpF l (k + 1) = l.take k := by rw [cpF_old (by omega) hd, hcp]
        refine rc_weak ?_ (c29_L2 hn hbig h1 ?_ (n - (k + 1)) 1 k l es h rfl (by omega) (by omega) h1 (by omega) M q hn hcp1.symm (fun j _ _ => rfl))
        · exact (sub_cons rfl (sub_cons rfl (sub_cons rfl (sub_cons rfl (sub_nil _)))))
        · intro h2 dk es2 kk M2 q2 hlen hk1 hkn hfin
          refine px_blk ?_
          refine pn_seq ?_
          refine rc_seq ?_
          refine rc_regionS ?_
          refine rs_step (rd_op (ov_move rfl) (rs_back ?_))
          refine rs_step (rd_op (ov_move rfl) (rs_back ?_))
          refine rs_step (rd_op (v := .os id ver (0 + kk * 2) (n - kk)) (ov_sliceO (a := (kk : Int)) (b := (n : Int)) rfl rfl rfl (by omega) (by omega) (by omega) (by decide)) (rs_back ?_))
          refine rs_clrT (k := 0) M2 rfl rfl hkn rfl (fun h3 M3 => ?_)
          replace M3 : Mem h3 (⟨.os id ver 0 kk, 60, 2, es2.take kk⟩ :: R_) := M3
          refine rs_nil ?_
          refine pn_seq ?_
          refine rc_seq ?_
          refine rc_region ?_
          refine rd_op (ov_move rfl) ?_
          refine rd_op (ov_move rfl) ?_
          refine rd_op (v := .os id ver 0 kk) (ov_sliceO (a := 0) (b := (kk : Int)) rfl rfl rfl (by omega) (by omega) (by omega) (by decide)) ?_
          refine rd_op (ov_move rfl) ?_
          refine rd_nil ?_
          refine pn_seq ?_
          have hq3 : All2 api_FieldRef.t.R (cpt l) (es2.take kk) := by
            have : cpt l = dk.take kk := by unfold cpt; rw [hn, hfin]
            rw [this]; exact q2.take kk
          have hl3 := cpF_len l n
          exact rc_retX (.tmp rfl .nil) ⟨_, _, M3, hq3, rfl, by unfold cpt; rw [hn]; omega, .inr ⟨_, _, _, rfl⟩, rfl⟩
      · simp only [decide_eq_false_iff_not] at hd
        refine rc_skip ?_
        refine pn_blk ?_
        refine pn_seq ?_
        refine rc_region ?_
        refine rd_op (ov_move rfl) ?_
        refine rd_op (ov_bin rfl rfl (badd _ _)) ?_
        refine rd_op (ov_move rfl) ?_
        refine rd_nil ?_
        refine pn_again ?_
        refine rc_weak ?_ (ih (k + 1) (by omega) (by omega) (by omega) ?_)
        · exact (sub_cons rfl (sub_cons rfl (sub_nil _)))
        · rw [cpF_new (.inr hd), hcp, take_ix (by omega)]
    · exfalso
      simp only [decide_eq_false_iff_not] at hc
      omega
theorem f29_cpt {x0 : List api_FieldRef} {a0 : PV} {es0 : List PV} {R_ : List Ent} {h_ : Heap} (q : All2 api_FieldRef.t.R x0 es0) (ne : isL a0 = true) (hl : x0.length ≤ 4611686018427387904) (wi : Wri a0 es0) (M : Mem h_ (⟨a0, 60, 2, es0⟩ :: R_)) : ∃ r h2_, FnX Try.prog 29 [a0] h_ r h2_ ∧ RF29 R_ (cpt x0) r h2_ := by
  suffices H : RC Try.prog ac29 [] (retPost Try.prog [(2, none)] (RF29 R_ (cpt x0))) (argE 0 [a0]) h_ by
    exact fnX text29 (by simp) H
  unfold ac29
  refine rc_seq ?_
  refine rc_region ?_
  refine rd_op (ov_move rfl) ?_
  refine rd_nil ?_
  refine pn_seq ?_
  refine rc_seq ?_
  refine rc_seq ?_
  refine rc_region ?_
  refine rd_op (ov_move rfl) ?_
  refine rd_op (ov_bi rfl (own_len (k := 0) M rfl Try.underlying52 ne q _)) ?_
  refine rd_op (ov_bin rfl rfl i_lss) ?_
  refine rd_nil ?_
  refine pn_seq ?_
  refine rc_cond rfl (fun hc => ?_) (fun hc => ?_)
  · simp only [decide_eq_true_eq] at hc
    refine rc_seq ?_
    refine rc_region ?_
    refine rd_op (ov_move rfl) ?_
    refine rd_op (ov_move rfl) ?_
    refine rd_nil ?_
    refine pn_seq ?_
    rw [cpt_small (by omega)]
    exact rc_retX (.tmp rfl .nil) ⟨a0, es0, M, q, ne, hl, wi, rfl⟩
  · simp only [decide_eq_false_iff_not] at hc
    obtain ⟨id, ver, n, rfl⟩ := wri_os (i := 0) wi q (by omega) (by omega)
    have hn : x0.length = n := by rw [mem_osn M (k := 0) rfl, All2.length_eq q]
    refine rc_skip ?_
    refine pn_seq ?_
    refine rc_seq ?_
    refine rc_seq ?_
    refine rc_region ?_
    refine rd_op (v := vi ((1 : Nat) : Int)) (ov_move rfl) ?_
    refine rd_nil ?_
    refine pn_seq ?_
    refine rc_block ?_
    refine rc_weak ?_ (c29_L1 hn (by omega) q M ?_ (n - 1) 1 rfl (by omega) (by omega) ?_)
    · exact (sub_cons rfl (sub_cons rfl (sub_nil _)))
    · refine px_blk ?_
      refine pn_seq ?_
      refine rc_seq ?_
      refine rc_region ?_
      refine rd_op (ov_move rfl) ?_
      refine rd_op (ov_move rfl) ?_
      refine rd_nil ?_
      refine pn_seq ?_
      exact rc_retX (.tmp rfl .nil) ⟨_, es0, M, q, ne, hl, wi, rfl⟩
    · rw [cpF_new (.inl rfl), take_ix (by omega)]
      rfl
theorem ceq32 {ox oy : Operand} {a b : Int} {va vb' : PV} (ra : tI.R a va) (rb : tI.R b vb') : binF Try.prog .eql 3 ox oy va vb' = some (vb (decide (a = b))) := by
  have ra : va = vi a := ra; have rb : vb' = vi b := rb; subst ra; subst rb
  exact i_eql
theorem cne32 {ox oy : Operand} {a b : Int} {va vb' : PV} (ra : tI.R a va) (rb : tI.R b vb') : binF Try.prog .neq 3 ox oy va vb' = some (vb (!decide (a = b))) := by
  have ra : va = vi a := ra; have rb : vb' = vi b := rb; subst ra; subst rb
  exact i_neq
def RF32 (R_ : List Ent) (res : List Int) (r : PV) (h : Heap) : Prop := ∃ a : PV, ∃ es : List PV, Mem h (⟨a, 3, 1, es⟩ :: R_) ∧ All2 tI.R res es ∧ isL a = true ∧ res.length ≤ 4611686018427387904 ∧ Wri a es ∧ r = a
theorem c32_L2 {S : List Fr} {R_ : List Ent} {l : List Int} {id ver n k0 : Nat} (hn : l.length = n) (hbig : n ≤ 4611686018427387904) (h0 : 1 ≤ k0)
    (hK : ∀ (h : Heap) (dk : List Int) (es : List PV) (kk : Nat), Mem h (⟨.os id ver 0 n, 3, 1, es⟩ :: R_) → All2 tI.R dk es → dk.length = n → 1 ≤ kk → kk < n → dk.take kk = cpF l n → PX Try.prog 2 S (retPost Try.prog [(2, none)] (RF32 R_ (cpt l))) [(3, vi (kk : Int)), (0, .os id ver 0 n)] h) :
    ∀ (f : Nat) (k2 kk : Nat) (dk : List Int) (es : List PV) (h : Heap), f = n - (k0 + k2) → 1 ≤ k2 → k0 + k2 ≤ n → 1 ≤ kk → kk < k0 + k2 → Mem h (⟨.os id ver 0 n, 3, 1, es⟩ :: R_) → All2 tI.R dk es → dk.length = n → dk.take kk = cpF l (k0 + k2) → (∀ j : Nat, kk ≤ j → j < n → ix dk (j : Int) = ix l (j : Int)) →
      RC Try.prog (.loop ac32_L2) S (retPost Try.prog [(2, none)] (RF32 R_ (cpt l))) [(5, vi (k2 : Int)), (4, .os id ver (0 + k0 * 1) (n - k0)), (3, vi (kk : Int)), (0, .os id ver 0 n)] h := by
  intro f
  induction f with
  | zero =>
    intro k2 kk dk es h hf h1 hle hk1 hkm M q hlen hcp hix
    refine rc_loop ?_
    unfold ac32_L2
    refine rc_seq ?_
    refine rc_seq ?_
    refine rc_region ?_
    refine rd_op (ov_move rfl) ?_
    refine rd_op (ov_move rfl) ?_
    refine rd_op (v := vi ((n - k0 : Nat) : Int)) (ov_bi rfl (osl_len Try.underlying29 _)) ?_
    refine rd_op (ov_bin rfl rfl i_lss) ?_
    refine rd_nil ?_
    refine pn_seq ?_
    refine rc_cond rfl (fun hc => ?_) (fun hc => ?_)
    · exfalso
      simp only [decide_eq_true_eq] at hc
      omega
    · refine rc_exit ?_
      refine px_seq ?_
      refine px_again ?_
      refine px_weak (sub_cons rfl (sub_cons rfl (sub_nil _))) (hK h dk es kk M q hlen hk1 (by omega) (by rw [hcp]; congr 1; omega))
  | succ f ih =>
    intro k2 kk dk es h hf h1 hle hk1 hkm M q hlen hcp hix
    have hlt : k0 + k2 < n := by omega
    have bsub : ∀ ox oy, binF Try.prog .sub 3 ox oy (vi (k2 : Int)) (vi 1) = some (vi ((k2 - 1 : Nat) : Int)) := fun ox oy => by
      have hw : wr ((k2 : Int) - 1) = ((k2 - 1 : Nat) : Int) := by rw [wr_of (by omega) (by omega)]; omega
      rw [← hw]; exact i_sub
    have badd : ∀ (z : Nat), z ≤ n → ∀ ox oy, binF Try.prog .add 3 ox oy (vi (z : Int)) (vi 1) = some (vi ((z + 1 : Nat) : Int)) := fun z hz ox oy => by
      have hw : wr ((z : Int) + 1) = ((z + 1 : Nat) : Int) := by rw [wr_of (by omega) (by omega)]; omega
      rw [← hw]; exact i_add
    have ad : ∀ z : Nat, z < n - k0 → idxR 1 (.os id ver (0 + k0 * 1) (n - k0)) (vi (z : Int)) = some (.op id ver (0 + (k0 + z) * 1)) := fun z hz => by
      have he : 0 + k0 * 1 + (z : Int).toNat * 1 = 0 + (k0 + z) * 1 := by rw [Int.toNat_natCast]; omega
      rw [← he]; exact n_idx 1 (by omega) (by omega)
    obtain ⟨v1, e1, r1⟩ := elem_at (i := ((k0 + k2 : Nat) : Int)) q (by omega) (by omega)
    obtain ⟨v2, e2, r2⟩ := elem_at (i := ((k0 + (k2 - 1) : Nat) : Int)) q (by omega) (by omega)
    rw [Int.toNat_natCast] at e1 e2
    rw [hix _ (by omega) hlt] at r1
    rw [hix _ (by omega) (by omega)] at r2
    have hm1 : ((k0 + (k2 - 1) : Nat) : Int) = ((k0 + k2 : Nat) : Int) - 1 := by omega
    rw [hm1] at r2
    refine rc_loop ?_
    unfold ac32_L2
    refine rc_seq ?_
    refine rc_seq ?_
    refine rc_region ?_
    refine rd_op (ov_move rfl) ?_
    refine rd_op (ov_move rfl) ?_
    refine rd_op (v := vi ((n - k0 : Nat) : Int)) (ov_bi rfl (osl_len Try.underlying29 _)) ?_
    refine rd_op (ov_bin rfl rfl i_lss) ?_
    refine rd_nil ?_
    refine pn_seq ?_
    refine rc_cond rfl (fun hc => ?_) (fun hc => ?_)
    · refine rc_skip ?_
      refine pn_seq ?_
      refine rc_seq ?_
      refine rc_block ?_
      refine rc_seq ?_
      refine rc_region ?_
      refine rd_op (ov_move rfl) ?_
      refine rd_op (ov_move rfl) ?_
      refine rd_op (ov_iaddr rfl rfl (ad k2 (by omega))) ?_
      refine rd_op (ov_elem (k := 0) M rfl rfl e1 (TR.agg tI r1)) ?_
      refine rd_op (ov_move rfl) ?_
      refine rd_op (ov_move rfl) ?_
      refine rd_op (ov_bin rfl rfl (bsub _ _)) ?_
      refine rd_op (ov_iaddr rfl rfl (ad (k2 - 1) (by omega))) ?_
      refine rd_op (ov_elem (k := 0) M rfl rfl e2 (TR.agg tI r2)) ?_
      refine rd_op (ov_bin rfl rfl (cne32 r1 r2)) ?_
      refine rd_nil ?_
      refine pn_seq ?_
      refine rc_cond rfl (fun hd => ?_) (fun hd => ?_)
      · simp only [Bool.not_eq_true', decide_eq_false_iff_not] at hd
        refine rc_seq ?_
        refine rc_region ?_
        refine rd_op (ov_move rfl) ?_
        refine rd_op (ov_move rfl) ?_
        refine rd_op (ov_move rfl) ?_
        refine rd_op (ov_move rfl) ?_
        refine rd_op (ov_iaddr rfl rfl (ad k2 (by omega))) ?_
        refine rd_op (ov_elem (k := 0) M rfl rfl e1 (TR.agg tI r1)) ?_
        refine rd_op (v := .op id ver (0 + kk * 1)) (ov_iaddr rfl rfl (n_idx 1 (by omega) (by omega))) ?_
        refine rd_setO (k := 0) (i := kk) (v := v1) M rfl rfl rfl (by rw [All2.length_eq q]; omega) (TR.cnt tI r1) (fun h2 M2 => ?_)
        replace M2 : Mem h2 (⟨.os id ver 0 n, 3, 1, es.set kk v1⟩ :: R_) := M2
        refine rd_nil ?_
        refine pn_seq ?_
        refine rc_region ?_
        refine rd_op (ov_move rfl) ?_
        refine rd_op (ov_bin rfl rfl (badd kk (by omega) _ _)) ?_
        refine rd_op (ov_move rfl) ?_
        refine rd_nil ?_
        refine pn_blk ?_
        refine pn_seq ?_
        refine rc_region ?_
        refine rd_op (ov_move rfl) ?_
        refine rd_op (ov_bin rfl rfl (badd k2 (by omega) _ _)) ?_
        refine rd_op (ov_move rfl) ?_
        refine rd_nil ?_
        refine pn_again ?_
        have q2 : All2 tI.R (dk.set kk (ix l ((k0 + k2 : Nat) : Int))) (es.set kk v1) := q.set r1
        refine rc_weak ?_ (ih (k2 + 1) (kk + 1) (dk.set kk (ix l ((k0 + k2 : Nat) : Int))) (es.set kk v1) h2 (by omega) (by omega) (by omega) (by omega) (by omega) M2 q2 (by simp [hlen]) ?_ ?_)
        · exact (sub_cons rfl (sub_cons rfl (sub_cons rfl (sub_cons rfl (sub_nil _)))))
        · rw [show k0 + (k2 + 1) = (k0 + k2) + 1 by omega, cpF_new (.inr hd), ← hcp, List.take_add_one, List.getElem?_set_self (by omega), List.take_set_of_le (Nat.le_refl _)]
          rfl
        · intro j hj hjn
          have hs : ∀ x : Int, ix (dk.set kk x) (j : Int) = ix dk (j : Int) := fun x => by
            simp only [ix, Int.toNat_natCast, List.getD_eq_getElem?_getD]
            rw [List.getElem?_set_ne (by omega)]
          rw [hs]
          exact hix j (by omega) hjn
      · simp only [Bool.not_eq_false', decide_eq_true_eq] at hd
        refine rc_skip ?_
        refine pn_blk ?_
        refine pn_seq ?_
        refine rc_region ?_
        refine rd_op (ov_move rfl) ?_
        refine rd_op (ov_bin rfl rfl (badd k2 (by omega) _ _)) ?_
        refine rd_op (ov_move rfl) ?_
        refine rd_nil ?_
        refine pn_again ?_
        refine rc_weak ?_ (ih (k2 + 1) kk dk es h (by omega) (by omega) (by omega) hk1 (by omega) M q hlen ?_ hix)
        · exact (sub_cons rfl (sub_cons rfl (sub_cons rfl (sub_cons rfl (sub_nil _)))))
        · rw [show k0 + (k2 + 1) = (k0 + k2) + 1 by omega, cpF_old (by omega) hd]
          exact hcp
    · exfalso
      simp only [decide_eq_false_iff_not] at hc
      omega
theorem c32_L1 {R_ : List Ent} {l : List Int} {es : List PV} {id ver n : Nat} {h : Heap} {S : List Fr} (hn : l.length = n) (hbig : n ≤ 4611686018427387904) (q : All2 tI.R l es) (M : Mem h (⟨.os id ver 0 n, 3, 1, es⟩ :: R_))
    (hK0 : PX Try.prog 0 S (retPost Try.prog [(2, none)] (RF32 R_ l)) [(0, .os id ver 0 n)] h) :
    ∀ (f k : Nat), f = n - k → 1 ≤ k → k ≤ n → cpF l k = l.take k → RC Try.prog (.loop ac32_L1) S (retPost Try.prog [(2, none)] (RF32 R_ (cpt l))) [(3, vi (k : Int)), (0, .os id ver 0 n)] h := by
  intro f
  induction f with
  | zero =>
    intro k hf h1 hle hcp
    have hkn : k = n := by omega
    subst hkn
    have hc : cpt l = l := by unfold cpt; rw [hn, hcp]; exact List.take_of_length_le (by omega)
    refine rc_loop ?_
    unfold ac32_L1
    refine rc_seq ?_
    refine rc_seq ?_
    refine rc_region ?_
    refine rd_op (ov_move rfl) ?_
    refine rd_op (ov_move rfl) ?_
    refine rd_op (v := vi ((k : Nat) : Int)) (ov_bi rfl (osl_len Try.underlying29 _)) ?_
    refine rd_op (ov_bin rfl rfl i_lss) ?_
    refine rd_nil ?_
    refine pn_seq ?_
    refine rc_cond rfl (fun hc => ?_) (fun hc => ?_)
    · exfalso
      simp only [decide_eq_true_eq] at hc
      omega
    · refine rc_exit ?_
      refine px_seq ?_
      refine px_again ?_
      rw [‹cpt l = l›]
      exact px_weak (sub_cons rfl (sub_nil _)) hK0
  | succ f ih =>
    intro k hf h1 hle hcp
    have hlt : k < n := by omega
    have bsub : ∀ ox oy, binF Try.prog .sub 3 ox oy (vi (k : Int)) (vi 1) = some (vi ((k - 1 : Nat) : Int)) := fun ox oy => by
      have hw : wr ((k : Int) - 1) = ((k - 1 : Nat) : Int) := by rw [wr_of (by omega) (by omega)]; omega
      rw [← hw]; exact i_sub
    have badd : ∀ ox oy, binF Try.prog .add 3 ox oy (vi (k : Int)) (vi 1) = some (vi ((k + 1 : Nat) : Int)) := fun ox oy => by
      have hw : wr ((k : Int) + 1) = ((k + 1 : Nat) : Int) := by rw [wr_of (by omega) (by omega)]; omega
      rw [← hw]; exact i_add
    obtain ⟨v1, e1, r1⟩ := elem_at (i := (k : Int)) q (by omega) (by omega)
    obtain ⟨v2, e2, r2⟩ := elem_at (i := ((k - 1 : Nat) : Int)) q (by omega) (by omega)
    rw [Int.toNat_natCast] at e1 e2
    have hm1 : ((k - 1 : Nat) : Int) = (k : Int) - 1 := by omega
    rw [hm1] at r2
    refine rc_loop ?_
    unfold ac32_L1
    refine rc_seq ?_
    refine rc_seq ?_
    refine rc_region ?_
    refine rd_op (ov_move rfl) ?_
    refine rd_op (ov_move rfl) ?_
    refine rd_op (v := vi ((n : Nat) : Int)) (ov_bi rfl (osl_len Try.underlying29 _)) ?_
    refine rd_op (ov_bin rfl rfl i_lss) ?_
    refine rd_nil ?_
    refine pn_seq ?_
    refine rc_cond rfl (fun hc => ?_) (fun hc => ?_)
    · refine rc_skip ?_
      refine pn_seq ?_
      refine rc_seq ?_
      refine rc_block ?_
      refine rc_seq ?_
      refine rc_region ?_
      refine rd_op (ov_move rfl) ?_
      refine rd_op (ov_move rfl) ?_
      refine rd_op (v := .op id ver (0 + k * 1)) (ov_iaddr rfl rfl (n_idx 1 (by omega) (by omega))) ?_
      refine rd_op (ov_elem (k := 0) M rfl rfl e1 (TR.agg tI r1)) ?_
      refine rd_op (ov_move rfl) ?_
      refine rd_op (ov_move rfl) ?_
      refine rd_op (ov_bin rfl rfl (bsub _ _)) ?_
      refine rd_op (v := .op id ver (0 + (k - 1) * 1)) (ov_iaddr rfl rfl (n_idx 1 (by omega) (by omega))) ?_
      refine rd_op (ov_elem (k := 0) M rfl rfl e2 (TR.agg tI r2)) ?_
      refine rd_op (ov_bin rfl rfl (ceq32 r1 r2)) ?_
      refine rd_nil ?_
      refine pn_seq ?_
      refine rc_cond rfl (fun hd => ?_) (fun hd => ?_)
      · simp only [decide_eq_true_eq] at hd
        refine rc_seq ?_
        refine rc_region ?_
        refine rd_op (ov_move rfl) ?_
        refine rd_op (ov_move rfl) ?_
        refine rd_op (v := .os id ver (0 + k * 1) (n - k)) (ov_sliceO (a := (k : Int)) (b := (n : Int)) rfl rfl rfl (by omega) (by omega) (by omega) (by decide)) ?_
        refine rd_op (ov_move rfl) ?_
        refine rd_nil ?_
        refine pn_seq ?_
        refine rc_seq ?_
        refine rc_seq ?_
        refine rc_region ?_
        refine rd_op (v := vi ((1 : Nat) : Int)) (ov_move rfl) ?_
        refine rd_nil ?_
        refine pn_seq ?_
        refine rc_block ?_
        have hcp1 : cpF l (k + 1) = l.take k := by rw [cpF_old (by omega) hd, hcp]
        refine rc_weak ?_ (c32_L2 hn hbig h1 ?_ (n - (k + 1)) 1 k l es h rfl (by omega) (by omega) h1 (by omega) M q hn hcp1.symm (fun j _ _ => rfl))
        · exact (sub_cons rfl (sub_cons rfl (sub_cons rfl (sub_cons rfl (sub_nil _)))))
        · intro h2 dk es2 kk M2 q2 hlen hk1 hkn hfin
          refine px_blk ?_
          refine pn_seq ?_
          refine rc_seq ?_
          refine rc_regionS ?_
          refine rs_step (rd_op (ov_move rfl) (rs_back ?_))
          refine rs_step (rd_op (ov_move rfl) (rs_back ?_))
          refine rs_step (rd_op (v := .os id ver (0 + kk * 1) (n - kk)) (ov_sliceO (a := (kk : Int)) (b := (n : Int)) rfl rfl rfl (by omega) (by omega) (by omega) (by decide)) (rs_back ?_))
          refine rs_clrT (k := 0) M2 rfl rfl hkn rfl (fun h3 M3 => ?_)
          replace M3 : Mem h3 (⟨.os id ver 0 kk, 3, 1, es2.take kk⟩ :: R_) := M3
          refine rs_nil ?_
          refine pn_seq ?_
          refine rc_seq ?_
          refine rc_region ?_
          refine rd_op (ov_move rfl) ?_
          refine rd_op (ov_move rfl) ?_
          refine rd_op (v := .os id ver 0 kk) (ov_sliceO (a := 0) (b := (kk : Int)) rfl rfl rfl (by omega) (by omega) (by omega) (by decide)) ?_
          refine rd_op (ov_move rfl) ?_
          refine rd_nil ?_
          refine pn_seq ?_
          have hq3 : All2 tI.R (cpt l) (es2.take kk) := by
            have : cpt l = dk.take kk := by unfold cpt; rw [hn, hfin]
            rw [this]; exact q2.take kk
          have hl3 := cpF_len l n
          exact rc_retX (.tmp rfl .nil) ⟨_, _, M3, hq3, rfl, by unfold cpt; rw [hn]; omega, .inr ⟨_, _, _, rfl⟩, rfl⟩
      · simp only [decide_eq_false_iff_not] at hd
        refine rc_skip ?_
        refine pn_blk ?_
        refine pn_seq ?_
        refine rc_region ?_
        refine rd_op (ov_move rfl) ?_
        refine rd_op (ov_bin rfl rfl (badd _ _)) ?_
        refine rd_op (ov_move rfl) ?_
        refine rd_nil ?_
        refine pn_again ?_
        refine rc_weak ?_ (ih (k + 1) (by omega) (by omega) (by omega) ?_)
        · exact (sub_cons rfl (sub_cons rfl (sub_nil _)))
        · rw [cpF_new (.inr hd), hcp, take_ix (by omega)]
    · exfalso
      simp only [decide_eq_false_iff_not] at hc
      omega
theorem f32_cpt {x0 : List Int} {a0 : PV} {es0 : List PV} {R_ : List Ent} {h_ : Heap} (q : All2 tI.R x0 es0) (ne : isL a0 = true) (hl : x0.length ≤ 4611686018427387904) (wi : Wri a0 es0) (M : Mem h_ (⟨a0, 3, 1, es0⟩ :: R_)) : ∃ r h2_, FnX Try.prog 32 [a0] h_ r h2_ ∧ RF32 R_ (cpt x0) r h2_ := by
  suffices H : RC Try.prog ac32 [] (retPost Try.prog [(2, none)] (RF32 R_ (cpt x0))) (argE 0 [a0]) h_ by
    exact fnX text32 (by simp) H
  unfold ac32
  refine rc_seq ?_
  refine rc_region ?_
  refine rd_op (ov_move rfl) ?_
  refine rd_nil ?_
  refine pn_seq ?_
  refine rc_seq ?_
  refine rc_seq ?_
  refine rc_region ?_
  refine rd_op (ov_move rfl) ?_
  refine rd_op (ov_bi rfl (own_len (k := 0) M rfl Try.underlying29 ne q _)) ?_
  refine rd_op (ov_bin rfl rfl i_lss) ?_
  refine rd_nil ?_
  refine pn_seq ?_
  refine rc_cond rfl (fun hc => ?_) (fun hc => ?_)
  · simp only [decide_eq_true_eq] at hc
    refine rc_seq ?_
    refine rc_region ?_
    refine rd_op (ov_move rfl) ?_
    refine rd_op (ov_move rfl) ?_
    refine rd_nil ?_
    refine pn_seq ?_
    rw [cpt_small (by omega)]
    exact rc_retX (.tmp rfl .nil) ⟨a0, es0, M, q, ne, hl, wi, rfl⟩
  · simp only [decide_eq_false_iff_not] at hc
    obtain ⟨id, ver, n, rfl⟩ := wri_os (i := 0) wi q (by omega) (by omega)
    have hn : x0.length = n := by rw [mem_osn M (k := 0) rfl, All2.length_eq q]
    refine rc_skip ?_
    refine pn_seq ?_
    refine rc_seq ?_
    refine rc_seq ?_
    refine rc_region ?_
    refine rd_op (v := vi ((1 : Nat) : Int)) (ov_move rfl) ?_
    refine rd_nil ?_
    refine pn_seq ?_
    refine rc_block ?_
    refine rc_weak ?_ (c32_L1 hn (by omega) q M ?_ (n - 1) 1 rfl (by omega) (by omega) ?_)
    · exact (sub_cons rfl (sub_cons rfl (sub_nil _)))
    · refine px_blk ?_
      refine pn_seq ?_
      refine rc_seq ?_
      refine rc_region ?_
      refine rd_op (ov_move rfl) ?_
      refine rd_op (ov_move rfl) ?_
      refine rd_nil ?_
      refine pn_seq ?_
      exact rc_retX (.tmp rfl .nil) ⟨_, es0, M, q, ne, hl, wi, rfl⟩
    · rw [cpF_new (.inl rfl), take_ix (by omega)]
      rfl
theorem cmp3 (a b : Int) : cmp_Compare_int a b = if a < b then -1 else if b < a then 1 else 0 := by
  unfold cmp_Compare_int cmp_isNaN_int
  simp [LET]
theorem or2 (a b : Int) : cmp_Or_int [a, b] = if a ≠ 0 then a else b := by
  unfold cmp_Or_int
  by_cases h : a = 0
  · by_cases h2 : b = 0
    · simp [cmp_Or_int_L1, ix, h, h2]
    · simp [cmp_Or_int_L1, ix, h, h2]
  · simp [cmp_Or_int_L1, ix, h]
theorem fr_lt (x y : api_FieldRef) : Go.Proofs.ltOf expr_Fields_1 x y = decide (x.Header < y.Header ∨ (x.Header = y.Header ∧ x.Field < y.Field)) := by
  unfold Go.Proofs.ltOf expr_Fields_1
  simp only [LET, or2, cmp3]
  congr 1
  rw [eq_iff_iff]
  repeat' split
  all_goals omega
theorem fr_swo : Go.Sort.SWO (Go.Proofs.ltOf expr_Fields_1) where
  irrefl x := by rw [fr_lt]; simp
  trans x y z h1 h2 := by rw [fr_lt] at *; simp at *; omega
  ntrans x y z h1 h2 := by rw [fr_lt] at *; simp at *; omega
theorem fr_total (x y : api_FieldRef) (h1 : Go.Proofs.ltOf expr_Fields_1 x y = false) (h2 : Go.Proofs.ltOf expr_Fields_1 y x = false) : x = y := by
  rw [fr_lt] at h1 h2
  obtain ⟨a, b⟩ := x
  obtain ⟨c, d⟩ := y
  simp at h1 h2
  have e1 : a = c := by omega
  subst e1
  have e2 : b = d := by omega
  subst e2
  rfl
def frmk (x : api_FieldRef) : PV := .agg [vi x.Header, vi x.Field]
def frenc (x : api_FieldRef) : List Value := [.int .i64 x.Header, .int .i64 x.Field]
theorem dropix {α : Type} [Inhabited α] {c : List α} {i : Int} (h0 : 0 ≤ i) (h1 : i < c.length) : c.drop i.toNat = ix c i :: c.drop (i + 1).toNat := by
  rw [ix_lt h0 h1, show (i + 1).toNat = i.toNat + 1 by omega]
  exact List.drop_eq_getElem_cons (by omega)
def frs (x0 : List api_ExprNode) : List api_FieldRef := (x0.filter fun x => decide (x.Op = 2)).map fun x => ({ Header := x.N, Field := x.W } : api_FieldRef)
def hds (x0 : List api_ExprNode) : List Int := (x0.filter fun x => decide (x.Op = 4)).map (·.N)
theorem fields_L1 (x0 : List api_ExprNode) (K : List api_FieldRef → List api_FieldRef) : ∀ (m : Nat) (i : Int) (z : List api_FieldRef), m = Int.toNat ((x0.length : Int) - i) → 0 ≤ i → expr_Fields_L1 x0 K m i z = K (z ++ frs (x0.drop i.toNat))
  | 0, i, z, hm, h0 => by
    rw [expr_Fields_L1, List.drop_eq_nil_of_le (by omega)]
    simp [frs]
  | m + 1, i, z, hm, h0 => by
    rw [expr_Fields_L1, dropix (c := x0) (i := i) h0 (by omega)]
    unfold frs
    rw [List.filter_cons]
    split
    · rw [fields_L1 x0 K m (i + 1) _ (by omega) (by omega)]
      simp [frs]
    · rw [fields_L1 x0 K m (i + 1) _ (by omega) (by omega)]
      simp [frs]
theorem headers_L1 (x0 : List api_ExprNode) (K : List Int → List Int) : ∀ (m : Nat) (i : Int) (z : List Int), m = Int.toNat ((x0.length : Int) - i) → 0 ≤ i → expr_Headers_L1 x0 K m i z = K (z ++ hds (x0.drop i.toNat))
  | 0, i, z, hm, h0 => by
    rw [expr_Headers_L1, List.drop_eq_nil_of_le (by omega)]
    simp [hds]
  | m + 1, i, z, hm, h0 => by
    rw [expr_Headers_L1, dropix (c := x0) (i := i) h0 (by omega)]
    unfold hds
    rw [List.filter_cons]
    split
    · rw [headers_L1 x0 K m (i + 1) _ (by omega) (by omega)]
      simp [hds]
    · rw [headers_L1 x0 K m (i + 1) _ (by omega) (by omega)]
      simp [hds]
theorem fields_cpt (x0 : List api_ExprNode) : expr_Fields x0 = cpt (sortFR (frs x0)) := by
  unfold expr_Fields
  rw [fields_L1 x0 _ _ 0 [] rfl (by omega)]
  rfl
theorem headers_cpt (x0 : List api_ExprNode) : expr_Headers x0 = cpt (slices_Sort__int_int_ (hds x0)) := by
  unfold expr_Headers
  rw [headers_L1 x0 _ _ 0 [] rfl (by omega)]
  rfl
end Go.Proofs.Ytnejfbehaembkaa
