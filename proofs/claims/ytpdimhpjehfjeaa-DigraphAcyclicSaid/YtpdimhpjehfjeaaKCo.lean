/-
  slices.Compact, walked.
-/
import Derived.Test.YtpdimhpjehfjeaaL8Text
import Derived.Test.YtpdimhpjehfjeaaKTy
import Derived.Test.YtpdimhpjehfjeaaPbV
set_option linter.unusedVariables false
set_option linter.unusedSimpArgs false
set_option maxRecDepth 100000
namespace Go.Proofs.Ytpdimhpjehfjeaa
open Go Go.Pb Go.RowKit
theorem ceq45 {ox oy : Operand} {a b : Int} {va vb' : PV} (ra : tI.R a va) (rb : tI.R b vb') : binF Try.prog .eql 3 ox oy va vb' = some (vb (decide (a = b))) := by
  have ra : va = vi a := ra; have rb : vb' = vi b := rb; subst ra; subst rb
  exact i_eql
theorem cne45 {ox oy : Operand} {a b : Int} {va vb' : PV} (ra : tI.R a va) (rb : tI.R b vb') : binF Try.prog .neq 3 ox oy va vb' = some (vb (!decide (a = b))) := by
  have ra : va = vi a := ra; have rb : vb' = vi b := rb; subst ra; subst rb
  exact i_neq
def RF45 (R_ : List Ent) (res : List Int) (r : PV) (h : Heap) : Prop := ∃ a : PV, ∃ es : List PV, Mem h (⟨a, 3, 1, es⟩ :: R_) ∧ All2 tI.R res es ∧ isL a = true ∧ res.length ≤ 4611686018427387904 ∧ Wri a es ∧ r = a
theorem c45_L2 {S : List Fr} {R_ : List Ent} {l : List Int} {id ver n k0 : Nat} (hn : l.length = n) (hbig : n ≤ 4611686018427387904) (h0 : 1 ≤ k0)
    (hK : ∀ (h : Heap) (dk : List Int) (es : List PV) (kk : Nat), Mem h (⟨.os id ver 0 n, 3, 1, es⟩ :: R_) → All2 tI.R dk es → dk.length = n → 1 ≤ kk → kk < n → dk.take kk = cpF l n → PX Try.prog 2 S (retPost Try.prog [(2, none)] (RF45 R_ (cpt l))) [(3, vi (kk : Int)), (0, .os id ver 0 n)] h) :
    ∀ (f : Nat) (k2 kk : Nat) (dk : List Int) (es : List PV) (h : Heap), f = n - (k0 + k2) → 1 ≤ k2 → k0 + k2 ≤ n → 1 ≤ kk → kk < k0 + k2 → Mem h (⟨.os id ver 0 n, 3, 1, es⟩ :: R_) → All2 tI.R dk es → dk.length = n → dk.take kk = cpF l (k0 + k2) → (∀ j : Nat, kk ≤ j → j < n → ix dk (j : Int) = ix l (j : Int)) →
      RC Try.prog (.loop ac45_L2) S (retPost Try.prog [(2, none)] (RF45 R_ (cpt l))) [(5, vi (k2 : Int)), (4, .os id ver (0 + k0 * 1) (n - k0)), (3, vi (kk : Int)), (0, .os id ver 0 n)] h := by
  intro f
  induction f with
  | zero =>
    intro k2 kk dk es h hf h1 hle hk1 hkm M q hlen hcp hix
    refine rc_loop ?_
    unfold ac45_L2
    refine rc_seq ?_
    refine rc_seq ?_
    refine rc_region ?_
    refine rd_op (ov_move rfl) ?_
    refine rd_op (ov_move rfl) ?_
    refine rd_op (v := vi ((n - k0 : Nat) : Int)) (ov_bi rfl (osl_len Try.underlying31 _)) ?_
    refine rd_op (ov_bin rfl rfl i_lss) ?_
    refine rd_nil ?_
    refine pn_seq ?_
    refine rc_cond rfl (fun hc => ?_) (fun hc => ?_)
    · exfalso
      simp only [decide_eq_true_eq] at hc
      omega
    · refine rc_exit ?_
      refine px_seq ?_
      refine px_again ?_
      refine px_weak (sub_cons rfl (sub_cons rfl (sub_nil _))) (hK h dk es kk M q hlen hk1 (by omega) (by rw [hcp]; congr 1; omega))
  | succ f ih =>
    intro k2 kk dk es h hf h1 hle hk1 hkm M q hlen hcp hix
    have hlt : k0 + k2 < n := by omega
    have bsub : ∀ ox oy, binF Try.prog .sub 3 ox oy (vi (k2 : Int)) (vi 1) = some (vi ((k2 - 1 : Nat) : Int)) := fun ox oy => by
      have hw : wr ((k2 : Int) - 1) = ((k2 - 1 : Nat) : Int) := by rw [wr_of (by omega) (by omega)]; omega
      rw [← hw]; exact i_sub
    have badd : ∀ (z : Nat), z ≤ n → ∀ ox oy, binF Try.prog .add 3 ox oy (vi (z : Int)) (vi 1) = some (vi ((z + 1 : Nat) : Int)) := fun z hz ox oy => by
      have hw : wr ((z : Int) + 1) = ((z + 1 : Nat) : Int) := by rw [wr_of (by omega) (by omega)]; omega
      rw [← hw]; exact i_add
    have ad : ∀ z : Nat, z < n - k0 → idxR 1 (.os id ver (0 + k0 * 1) (n - k0)) (vi (z : Int)) = some (.op id ver (0 + (k0 + z) * 1)) := fun z hz => by
      have he : 0 + k0 * 1 + (z : Int).toNat * 1 = 0 + (k0 + z) * 1 := by rw [Int.toNat_natCast]; omega
      rw [← he]; exact n_idx 1 (by omega) (by omega)
    obtain ⟨v1, e1, r1⟩ := elem_at (i := ((k0 + k2 : Nat) : Int)) q (by omega) (by omega)
    obtain ⟨v2, e2, r2⟩ := elem_at (i := ((k0 + (k2 - 1) : Nat) : Int)) q (by omega) (by omega)
    rw [Int.toNat_natCast] at e1 e2
    rw [hix _ (by omega) hlt] at r1
    rw [hix _ (by omega) (by omega)] at r2
    have hm1 : ((k0 + (k2 - 1) : Nat) : Int) = ((k0 + k2 : Nat) : Int) - 1 := by omega
    rw [hm1] at r2
    refine rc_loop ?_
    unfold ac45_L2
    refine rc_seq ?_
    refine rc_seq ?_
    refine rc_region ?_
    refine rd_op (ov_move rfl) ?_
    refine rd_op (ov_move rfl) ?_
    refine rd_op (v := vi ((n - k0 : Nat) : Int)) (ov_bi rfl (osl_len Try.underlying31 _)) ?_
    refine rd_op (ov_bin rfl rfl i_lss) ?_
    refine rd_nil ?_
    refine pn_seq ?_
    refine rc_cond rfl (fun hc => ?_) (fun hc => ?_)
    · refine rc_skip ?_
      refine pn_seq ?_
      refine rc_seq ?_
      refine rc_block ?_
      refine rc_seq ?_
      refine rc_region ?_
      refine rd_op (ov_move rfl) ?_
      refine rd_op (ov_move rfl) ?_
      refine rd_op (ov_iaddr rfl rfl (ad k2 (by omega))) ?_
      refine rd_op (ov_elem (k := 0) M rfl rfl e1 (TR.agg tI r1)) ?_
      refine rd_op (ov_move rfl) ?_
      refine rd_op (ov_move rfl) ?_
      refine rd_op (ov_bin rfl rfl (bsub _ _)) ?_
      refine rd_op (ov_iaddr rfl rfl (ad (k2 - 1) (by omega))) ?_
      refine rd_op (ov_elem (k := 0) M rfl rfl e2 (TR.agg tI r2)) ?_
      refine rd_op (ov_bin rfl rfl (cne45 r1 r2)) ?_
      refine rd_nil ?_
      refine pn_seq ?_
      refine rc_cond rfl (fun hd => ?_) (fun hd => ?_)
      · simp only [Bool.not_eq_true', decide_eq_false_iff_not] at hd
        refine rc_seq ?_
        refine rc_region ?_
        refine rd_op (ov_move rfl) ?_
        refine rd_op (ov_move rfl) ?_
        refine rd_op (ov_move rfl) ?_
        refine rd_op (ov_move rfl) ?_
        refine rd_op (ov_iaddr rfl rfl (ad k2 (by omega))) ?_
        refine rd_op (ov_elem (k := 0) M rfl rfl e1 (TR.agg tI r1)) ?_
        refine rd_op (v := .op id ver (0 + kk * 1)) (ov_iaddr rfl rfl (n_idx 1 (by omega) (by omega))) ?_
        refine rd_setO (k := 0) (i := kk) (v := v1) M rfl rfl rfl (by rw [All2.length_eq q]; omega) (TR.cnt tI r1) (fun h2 M2 => ?_)
        replace M2 : Mem h2 (⟨.os id ver 0 n, 3, 1, es.set kk v1⟩ :: R_) := M2
        refine rd_nil ?_
        refine pn_seq ?_
        refine rc_region ?_
        refine rd_op (ov_move rfl) ?_
        refine rd_op (ov_bin rfl rfl (badd kk (by omega) _ _)) ?_
        refine rd_op (ov_move rfl) ?_
        refine rd_nil ?_
        refine pn_blk ?_
        refine pn_seq ?_
        refine rc_region ?_
        refine rd_op (ov_move rfl) ?_
        refine rd_op (ov_bin rfl rfl (badd k2 (by omega) _ _)) ?_
        refine rd_op (ov_move rfl) ?_
        refine rd_nil ?_
        refine pn_again ?_
        have q2 : All2 tI.R (dk.set kk (ix l ((k0 + k2 : Nat) : Int))) (es.set kk v1) := q.set r1
        refine rc_weak ?_ (ih (k2 + 1) (kk + 1) (dk.set kk (ix l ((k0 + k2 : Nat) : Int))) (es.set kk v1) h2 (by omega) (by omega) (by omega) (by omega) (by omega) M2 q2 (by simp [hlen]) ?_ ?_)
        · exact (sub_cons rfl (sub_cons rfl (sub_cons rfl (sub_cons rfl (sub_nil _)))))
        · rw [show k0 + (k2 + 1) = (k0 + k2) + 1 by omega, cpF_new (.inr hd), ← hcp, List.take_add_one, List.getElem?_set_self (by omega), List.take_set_of_le (Nat.le_refl _)]
          rfl
        · intro j hj hjn
          have hs : ∀ x : Int, ix (dk.set kk x) (j : Int) = ix dk (j : Int) := fun x => by
            simp only [ix, Int.toNat_natCast, List.getD_eq_getElem?_getD]
            rw [List.getElem?_set_ne (by omega)]
          rw [hs]
          exact hix j (by omega) hjn
      · simp only [Bool.not_eq_false', decide_eq_true_eq] at hd
        refine rc_skip ?_
        refine pn_blk ?_
        refine pn_seq ?_
        refine rc_region ?_
        refine rd_op (ov_move rfl) ?_
        refine rd_op (ov_bin rfl rfl (badd k2 (by omega) _ _)) ?_
        refine rd_op (ov_move rfl) ?_
        refine rd_nil ?_
        refine pn_again ?_
        refine rc_weak ?_ (ih (k2 + 1) kk dk es h (by omega) (by omega) (by omega) hk1 (by omega) M q hlen ?_ hix)
        · exact (sub_cons rfl (sub_cons rfl (sub_cons rfl (sub_cons rfl (sub_nil _)))))
        · rw [show k0 + (k2 + 1) = (k0 + k2) + 1 by omega, cpF_old (by omega) hd]
          exact hcp
    · exfalso
      simp only [decide_eq_false_iff_not] at hc
      omega
theorem c45_L1 {R_ : List Ent} {l : List Int} {es : List PV} {id ver n : Nat} {h : Heap} {S : List Fr} (hn : l.length = n) (hbig : n ≤ 4611686018427387904) (q : All2 tI.R l es) (M : Mem h (⟨.os id ver 0 n, 3, 1, es⟩ :: R_))
    (hK0 : PX Try.prog 0 S (retPost Try.prog [(2, none)] (RF45 R_ l)) [(0, .os id ver 0 n)] h) :
    ∀ (f k : Nat), f = n - k → 1 ≤ k → k ≤ n → cpF l k = l.take k → RC Try.prog (.loop ac45_L1) S (retPost Try.prog [(2, none)] (RF45 R_ (cpt l))) [(3, vi (k : Int)), (0, .os id ver 0 n)] h := by
  intro f
  induction f with
  | zero =>
    intro k hf h1 hle hcp
    have hkn : k = n := by omega
    subst hkn
    have hc : cpt l = l := by unfold cpt; rw [hn, hcp]; exact List.take_of_length_le (by omega)
    refine rc_loop ?_
    unfold ac45_L1
    refine rc_seq ?_
    refine rc_seq ?_
    refine rc_region ?_
    refine rd_op (ov_move rfl) ?_
    refine rd_op (ov_move rfl) ?_
    refine rd_op (v := vi ((k : Nat) : Int)) (ov_bi rfl (osl_len Try.underlying31 _)) ?_
    refine rd_op (ov_bin rfl rfl i_lss) ?_
    refine rd_nil ?_
    refine pn_seq ?_
    refine rc_cond rfl (fun hc => ?_) (fun hc => ?_)
    · exfalso
      simp only [decide_eq_true_eq] at hc
      omega
    · refine rc_exit ?_
      refine px_seq ?_
      refine px_again ?_
      rw [‹cpt l = l›]
      exact px_weak (sub_cons rfl (sub_nil _)) hK0
  | succ f ih =>
    intro k hf h1 hle hcp
    have hlt : k < n := by omega
    have bsub : ∀ ox oy, binF Try.prog .sub 3 ox oy (vi (k : Int)) (vi 1) = some (vi ((k - 1 : Nat) : Int)) := fun ox oy => by
      have hw : wr ((k : Int) - 1) = ((k - 1 : Nat) : Int) := by rw [wr_of (by omega) (by omega)]; omega
      rw [← hw]; exact i_sub
    have badd : ∀ ox oy, binF Try.prog .add 3 ox oy (vi (k : Int)) (vi 1) = some (vi ((k + 1 : Nat) : Int)) := fun ox oy => by
      have hw : wr ((k : Int) + 1) = ((k + 1 : Nat) : Int) := by rw [wr_of (by omega) (by omega)]; omega
      rw [← hw]; exact i_add
    obtain ⟨v1, e1, r1⟩ := elem_at (i := (k : Int)) q (by omega) (by omega)
    obtain ⟨v2, e2, r2⟩ := elem_at (i := ((k - 1 : Nat) : Int)) q (by omega) (by omega)
    rw [Int.toNat_natCast] at e1 e2
    have hm1 : ((k - 1 : Nat) : Int) = (k : Int) - 1 := by omega
    rw [hm1] at r2
    refine rc_loop ?_
    unfold ac45_L1
    refine rc_seq ?_
    refine rc_seq ?_
    refine rc_region ?_
    refine rd_op (ov_move rfl) ?_
    refine rd_op (ov_move rfl) ?_
    refine rd_op (v := vi ((n : Nat) : Int)) (ov_bi rfl (osl_len Try.underlying31 _)) ?_
    refine rd_op (ov_bin rfl rfl i_lss) ?_
    refine rd_nil ?_
    refine pn_seq ?_
    refine rc_cond rfl (fun hc => ?_) (fun hc => ?_)
    · refine rc_skip ?_
      refine pn_seq ?_
      refine rc_seq ?_
      refine rc_block ?_
      refine rc_seq ?_
      refine rc_region ?_
      refine rd_op (ov_move rfl) ?_
      refine rd_op (ov_move rfl) ?_
      refine rd_op (v := .op id ver (0 + k * 1)) (ov_iaddr rfl rfl (n_idx 1 (by omega) (by omega))) ?_
      refine rd_op (ov_elem (k := 0) M rfl rfl e1 (TR.agg tI r1)) ?_
      refine rd_op (ov_move rfl) ?_
      refine rd_op (ov_move rfl) ?_
      refine rd_op (ov_bin rfl rfl (bsub _ _)) ?_
      refine rd_op (v := .op id ver (0 + (k - 1) * 1)) (ov_iaddr rfl rfl (n_idx 1 (by omega) (by omega))) ?_
      refine rd_op (ov_elem (k := 0) M rfl rfl e2 (TR.agg tI r2)) ?_
      refine rd_op (ov_bin rfl rfl (ceq45 r1 r2)) ?_
      refine rd_nil ?_
      refine pn_seq ?_
      refine rc_cond rfl (fun hd => ?_) (fun hd => ?_)
      · simp only [decide_eq_true_eq] at hd
        refine rc_seq ?_
        refine rc_region ?_
        refine rd_op (ov_move rfl) ?_
        refine rd_op (ov_move rfl) ?_
        refine rd_op (v := .os id ver (0 + k * 1) (n - k)) (ov_sliceO (a := (k : Int)) (b := (n : Int)) rfl rfl rfl (by omega) (by omega) (by omega) (by decide)) ?_
        refine rd_op (ov_move rfl) ?_
        refine rd_nil ?_
        refine pn_seq ?_
        refine rc_seq ?_
        refine rc_seq ?_
        refine rc_region ?_
        refine rd_op (v := vi ((1 : Nat) : Int)) (ov_move rfl) ?_
        refine rd_nil ?_
        refine pn_seq ?_
        refine rc_block ?_
        have hcp1 : cpF l (k + 1) = l.take k := by rw [cpF_old (by omega) hd, hcp]
        refine rc_weak ?_ (c45_L2 hn hbig h1 ?_ (n - (k + 1)) 1 k l es h rfl (by omega) (by omega) h1 (by omega) M q hn hcp1.symm (fun j _ _ => rfl))
        · exact (sub_cons rfl (sub_cons rfl (sub_cons rfl (sub_cons rfl (sub_nil _)))))
        · intro h2 dk es2 kk M2 q2 hlen hk1 hkn hfin
          refine px_blk ?_
          refine pn_seq ?_
          refine rc_seq ?_
          refine rc_regionS ?_
          refine rs_step (rd_op (ov_move rfl) (rs_back ?_))
          refine rs_step (rd_op (ov_move rfl) (rs_back ?_))
          refine rs_step (rd_op (v := .os id ver (0 + kk * 1) (n - kk)) (ov_sliceO (a := (kk : Int)) (b := (n : Int)) rfl rfl rfl (by omega) (by omega) (by omega) (by decide)) (rs_back ?_))
          refine rs_clrT (k := 0) M2 rfl rfl hkn rfl (fun h3 M3 => ?_)
          replace M3 : Mem h3 (⟨.os id ver 0 kk, 3, 1, es2.take kk⟩ :: R_) := M3
          refine rs_nil ?_
          refine pn_seq ?_
          refine rc_seq ?_
          refine rc_region ?_
          refine rd_op (ov_move rfl) ?_
          refine rd_op (ov_move rfl) ?_
          refine rd_op (v := .os id ver 0 kk) (ov_sliceO (a := 0) (b := (kk : Int)) rfl rfl rfl (by omega) (by omega) (by omega) (by decide)) ?_
          refine rd_op (ov_move rfl) ?_
          refine rd_nil ?_
          refine pn_seq ?_
          have hq3 : All2 tI.R (cpt l) (es2.take kk) := by
            have : cpt l = dk.take kk := by unfold cpt; rw [hn, hfin]
            rw [this]; exact q2.take kk
          have hl3 := cpF_len l n
          exact rc_retX (.tmp rfl .nil) ⟨_, _, M3, hq3, rfl, by unfold cpt; rw [hn]; omega, .inr ⟨_, _, _, rfl⟩, rfl⟩
      · simp only [decide_eq_false_iff_not] at hd
        refine rc_skip ?_
        refine pn_blk ?_
        refine pn_seq ?_
        refine rc_region ?_
        refine rd_op (ov_move rfl) ?_
        refine rd_op (ov_bin rfl rfl (badd _ _)) ?_
        refine rd_op (ov_move rfl) ?_
        refine rd_nil ?_
        refine pn_again ?_
        refine rc_weak ?_ (ih (k + 1) (by omega) (by omega) (by omega) ?_)
        · exact (sub_cons rfl (sub_cons rfl (sub_nil _)))
        · rw [cpF_new (.inr hd), hcp, take_ix (by omega)]
    · exfalso
      simp only [decide_eq_false_iff_not] at hc
      omega
theorem f45_cpt {x0 : List Int} {a0 : PV} {es0 : List PV} {R_ : List Ent} {h_ : Heap} (q : All2 tI.R x0 es0) (ne : isL a0 = true) (hl : x0.length ≤ 4611686018427387904) (wi : Wri a0 es0) (M : Mem h_ (⟨a0, 3, 1, es0⟩ :: R_)) : ∃ r h2_, FnX Try.prog 45 [a0] h_ r h2_ ∧ RF45 R_ (cpt x0) r h2_ := by
  suffices H : RC Try.prog ac45 [] (retPost Try.prog [(2, none)] (RF45 R_ (cpt x0))) (argE 0 [a0]) h_ by
    exact fnX text45 (by simp) H
  unfold ac45
  refine rc_seq ?_
  refine rc_region ?_
  refine rd_op (ov_move rfl) ?_
  refine rd_nil ?_
  refine pn_seq ?_
  refine rc_seq ?_
  refine rc_seq ?_
  refine rc_region ?_
  refine rd_op (ov_move rfl) ?_
  refine rd_op (ov_bi rfl (own_len (k := 0) M rfl Try.underlying31 ne q _)) ?_
  refine rd_op (ov_bin rfl rfl i_lss) ?_
  refine rd_nil ?_
  refine pn_seq ?_
  refine rc_cond rfl (fun hc => ?_) (fun hc => ?_)
  · simp only [decide_eq_true_eq] at hc
    refine rc_seq ?_
    refine rc_region ?_
    refine rd_op (ov_move rfl) ?_
    refine rd_op (ov_move rfl) ?_
    refine rd_nil ?_
    refine pn_seq ?_
    rw [cpt_small (by omega)]
    exact rc_retX (.tmp rfl .nil) ⟨a0, es0, M, q, ne, hl, wi, rfl⟩
  · simp only [decide_eq_false_iff_not] at hc
    obtain ⟨id, ver, n, rfl⟩ := wri_os (i := 0) wi q (by omega) (by omega)
    have hn : x0.length = n := by rw [mem_osn M (k := 0) rfl, All2.length_eq q]
    refine rc_skip ?_
    refine pn_seq ?_
    refine rc_seq ?_
    refine rc_seq ?_
    refine rc_region ?_
    refine rd_op (v := vi ((1 : Nat) : Int)) (ov_move rfl) ?_
    refine rd_nil ?_
    refine pn_seq ?_
    refine rc_block ?_
    refine rc_weak ?_ (c45_L1 hn (by omega) q M ?_ (n - 1) 1 rfl (by omega) (by omega) ?_)
    · exact (sub_cons rfl (sub_cons rfl (sub_nil _)))
    · refine px_blk ?_
      refine pn_seq ?_
      refine rc_seq ?_
      refine rc_region ?_
      refine rd_op (ov_move rfl) ?_
      refine rd_op (ov_move rfl) ?_
      refine rd_nil ?_
      refine pn_seq ?_
      exact rc_retX (.tmp rfl .nil) ⟨_, es0, M, q, ne, hl, wi, rfl⟩
    · rw [cpF_new (.inl rfl), take_ix (by omega)]
      rfl
end Go.Proofs.Ytpdimhpjehfjeaa
