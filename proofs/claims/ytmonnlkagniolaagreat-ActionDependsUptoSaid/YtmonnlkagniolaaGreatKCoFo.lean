import Derived.Test.YtmonnlkagniolaaGreatL9Text
import Derived.Test.YtmonnlkagniolaaGreatKTy
import Derived.Test.YtmonnlkagniolaaGreatPbV
import Derived.Test.YtmonnlkagniolaaGreatKDef
import Derived.Test.YtmonnlkagniolaaGreatPbV
import Derived.Test.YtmonnlkagniolaaGreatPbV
set_option linter.unusedVariables false
set_option linter.unusedSimpArgs false
set_option maxRecDepth 100000
namespace Go.Proofs.YtmonnlkagniolaaGreat
open Go Go.Pb Go.RowKit
theorem dd6 {ox oy : Operand} {a b : aa} {va vb' : PV} (ra : aa.t.R a va) (rb : aa.t.R b vb') : binF Tryz.prog .eql 87 ox oy va vb' = some (vb (decide (a = b))) := aa.eql_87 ra rb
theorem di2 {ox oy : Operand} {a b : aa} {va vb' : PV} (ra : aa.t.R a va) (rb : aa.t.R b vb') : binF Tryz.prog .neq 87 ox oy va vb' = some (vb (!decide (a = b))) := aa.neq_87 ra rb
def RF142 (R_ : List Ent) (res : List aa) (r : PV) (h : Heap) : Prop := ∃ a : PV, ∃ es : List PV, Mem h (⟨a, 87, 2, es⟩ :: R_) ∧ All2 aa.t.R res es ∧ isL a = true ∧ res.length ≤ 4611686018427387904 ∧ Wri a es ∧ r = a
theorem cn3 {S : List Fr} {R_ : List Ent} {l : List aa} {id ver n k0 : Nat} (hn : l.length = n) (hbig : n ≤ 4611686018427387904) (h0 : 1 ≤ k0)
 (hK : ∀ (h : Heap) (dk : List aa) (es : List PV) (kk : Nat), Mem h (⟨.os id ver 0 n, 87, 2, es⟩ :: R_) → All2 aa.t.R dk es → dk.length = n → 1 ≤ kk → kk < n → dk.take kk = cpF l n → PX Tryz.prog 2 S (retPost Tryz.prog [(2, none)] (RF142 R_ (cpt l))) [(3, vi (kk : Int)), (0, .os id ver 0 n)] h) :
 ∀ (f : Nat) (k2 kk : Nat) (dk : List aa) (es : List PV) (h : Heap), f = n - (k0 + k2) → 1 ≤ k2 → k0 + k2 ≤ n → 1 ≤ kk → kk < k0 + k2 → Mem h (⟨.os id ver 0 n, 87, 2, es⟩ :: R_) → All2 aa.t.R dk es → dk.length = n → dk.take kk = cpF l (k0 + k2) → (∀ j : Nat, kk ≤ j → j < n → ix dk (j : Int) = ix l (j : Int)) →
   RC Tryz.prog (.loop zc) S (retPost Tryz.prog [(2, none)] (RF142 R_ (cpt l))) [(5, vi (k2 : Int)), (4, .os id ver (0 + k0 * 2) (n - k0)), (3, vi (kk : Int)), (0, .os id ver 0 n)] h := by
 intro f
 induction f with
 | zero =>
   intro k2 kk dk es h hf h1 hle hk1 hkm M q hlen hcp hix
   refine ct ?_
   unfold zc
   refine aq ?_
   refine aq ?_
   refine ax ?_
   refine ab (au rfl) ?_
   refine ab (au rfl) ?_
   refine ab (v := vi ((n - k0 : Nat) : Int)) (cy rfl (sk Tryz.underlying75 _)) ?_
   refine ab (bz rfl rfl cz) ?_
   refine bp ?_
   refine am ?_
   refine cj rfl (fun hc => ?_) (fun hc => ?_)
   ·exfalso
    simp only [decide_eq_true_eq] at hc
    omega
   ·refine ft ?_
    refine gk ?_
    refine ej ?_
    refine xr (fg rfl (fg rfl (od _))) (hK h dk es kk M q hlen hk1 (by omega) (by rw [hcp]; congr 1; omega))
 | succ f ih =>
   intro k2 kk dk es h hf h1 hle hk1 hkm M q hlen hcp hix
   have hlt : k0 + k2 < n := by omega
   have bsub : ∀ ox oy, binF Tryz.prog .sub 3 ox oy (vi (k2 : Int)) (vi 1) = some (vi ((k2 - 1 : Nat) : Int)) := fun ox oy => by
    have hw : wr ((k2 : Int) - 1) = ((k2 - 1 : Nat) : Int) := by rw [gb (by omega) (by omega)]; omega
    rw [← hw]; exact ai6
   have badd : ∀ (z : Nat), z ≤ n → ∀ ox oy, binF Tryz.prog .add 3 ox oy (vi (z : Int)) (vi 1) = some (vi ((z + 1 : Nat) : Int)) := fun z hz ox oy => by
    have hw : wr ((z : Int) + 1) = ((z + 1 : Nat) : Int) := by rw [gb (by omega) (by omega)]; omega
    rw [← hw]; exact gm
   have ad : ∀ z : Nat, z < n - k0 → idxR 2 (.os id ver (0 + k0 * 2) (n - k0)) (vi (z : Int)) = some (.op id ver (0 + (k0 + z) * 2)) := fun z hz => by
    have he : 0 + k0 * 2 + (z : Int).toNat * 2 = 0 + (k0 + z) * 2 := by rw [Int.toNat_natCast]; omega
    rw [← he]; exact qg 2 (by omega) (by omega)
   obtain ⟨v1, e1, r1⟩ := qp (i := ((k0 + k2 : Nat) : Int)) q (by omega) (by omega)
   obtain ⟨v2, e2, r2⟩ := qp (i := ((k0 + (k2 - 1) : Nat) : Int)) q (by omega) (by omega)
   rw [Int.toNat_natCast] at e1 e2
   rw [hix _ (by omega) hlt] at r1
   rw [hix _ (by omega) (by omega)] at r2
   have hm1 : ((k0 + (k2 - 1) : Nat) : Int) = ((k0 + k2 : Nat) : Int) - 1 := by omega
   rw [hm1] at r2
   refine ct ?_
   unfold zc
   refine aq ?_
   refine aq ?_
   refine ax ?_
   refine ab (au rfl) ?_
   refine ab (au rfl) ?_
   refine ab (v := vi ((n - k0 : Nat) : Int)) (cy rfl (sk Tryz.underlying75 _)) ?_
   refine ab (bz rfl rfl cz) ?_
   refine bp ?_
   refine am ?_
   refine cj rfl (fun hc => ?_) (fun hc => ?_)
   ·refine bb ?_
    refine am ?_
    refine aq ?_
    refine br ?_
    refine aq ?_
    refine ax ?_
    refine ab (au rfl) ?_
    refine ab (au rfl) ?_
    refine ab (bh rfl rfl (ad k2 (by omega))) ?_
    refine ab (ou (k := 0) M rfl rfl e1 (TR.agg aa.t r1)) ?_
    refine ab (au rfl) ?_
    refine ab (au rfl) ?_
    refine ab (bz rfl rfl (bsub _ _)) ?_
    refine ab (bh rfl rfl (ad (k2 - 1) (by omega))) ?_
    refine ab (ou (k := 0) M rfl rfl e2 (TR.agg aa.t r2)) ?_
    refine ab (bz rfl rfl (di2 r1 r2)) ?_
    refine bp ?_
    refine am ?_
    refine cj rfl (fun hd => ?_) (fun hd => ?_)
    ·simp only [Bool.not_eq_true', decide_eq_false_iff_not] at hd
     refine aq ?_
     refine ax ?_
     refine ab (au rfl) ?_
     refine ab (au rfl) ?_
     refine ab (au rfl) ?_
     refine ab (au rfl) ?_
     refine ab (bh rfl rfl (ad k2 (by omega))) ?_
     refine ab (ou (k := 0) M rfl rfl e1 (TR.agg aa.t r1)) ?_
     refine ab (v := .op id ver (0 + kk * 2)) (bh rfl rfl (qg 2 (by omega) (by omega))) ?_
     refine tu (k := 0) (i := kk) (v := v1) M rfl rfl rfl (by rw [All2.length_eq q]; omega) (TR.cnt aa.t r1) (fun h2 M2 => ?_)
     replace M2 : Mem h2 (⟨.os id ver 0 n, 87, 2, es.set kk v1⟩ :: R_) := M2
     refine bp ?_
     refine am ?_
     refine ax ?_
     refine ab (au rfl) ?_
     refine ab (bz rfl rfl (badd kk (by omega) _ _)) ?_
     refine ab (au rfl) ?_
     refine bp ?_
     refine de ?_
     refine am ?_
     refine ax ?_
     refine ab (au rfl) ?_
     refine ab (bz rfl rfl (badd k2 (by omega) _ _)) ?_
     refine ab (au rfl) ?_
     refine bp ?_
     refine di ?_
     have q2 : All2 aa.t.R (dk.set kk (ix l ((k0 + k2 : Nat) : Int))) (es.set kk v1) := q.set r1
     refine pf ?_ (ih (k2 + 1) (kk + 1) (dk.set kk (ix l ((k0 + k2 : Nat) : Int))) (es.set kk v1) h2 (by omega) (by omega) (by omega) (by omega) (by omega) M2 q2 (by simp [hlen]) ?_ ?_)
     ·exact (fg rfl (fg rfl (fg rfl (fg rfl (od _)))))
     ·rw [show k0 + (k2 + 1) = (k0 + k2) + 1 by omega, ti (.inr hd), ← hcp, List.take_add_one, List.getElem?_set_self (by omega), List.take_set_of_le (Nat.le_refl _)]
      rfl
     ·intro j hj hjn
      have hs : ∀ x : aa, ix (dk.set kk x) (j : Int) = ix dk (j : Int) := fun x => by
       simp only [ix, Int.toNat_natCast, List.getD_eq_getElem?_getD]
       rw [List.getElem?_set_ne (by omega)]
      rw [hs]
      exact hix j (by omega) hjn
    ·simp only [Bool.not_eq_false', decide_eq_true_eq] at hd
     refine bb ?_
     refine de ?_
     refine am ?_
     refine ax ?_
     refine ab (au rfl) ?_
     refine ab (bz rfl rfl (badd k2 (by omega) _ _)) ?_
     refine ab (au rfl) ?_
     refine bp ?_
     refine di ?_
     refine pf ?_ (ih (k2 + 1) kk dk es h (by omega) (by omega) (by omega) hk1 (by omega) M q hlen ?_ hix)
     ·exact (fg rfl (fg rfl (fg rfl (fg rfl (od _)))))
     ·rw [show k0 + (k2 + 1) = (k0 + k2) + 1 by omega, yz (by omega) hd]
      exact hcp
   ·exfalso
    simp only [decide_eq_false_iff_not] at hc
    omega
theorem cj2 {R_ : List Ent} {l : List aa} {es : List PV} {id ver n : Nat} {h : Heap} {S : List Fr} (hn : l.length = n) (hbig : n ≤ 4611686018427387904) (q : All2 aa.t.R l es) (M : Mem h (⟨.os id ver 0 n, 87, 2, es⟩ :: R_))
 (hK0 : PX Tryz.prog 0 S (retPost Tryz.prog [(2, none)] (RF142 R_ l)) [(0, .os id ver 0 n)] h) :
 ∀ (f k : Nat), f = n - k → 1 ≤ k → k ≤ n → cpF l k = l.take k → RC Tryz.prog (.loop zj) S (retPost Tryz.prog [(2, none)] (RF142 R_ (cpt l))) [(3, vi (k : Int)), (0, .os id ver 0 n)] h := by
 intro f
 induction f with
 | zero =>
   intro k hf h1 hle hcp
   have hkn : k = n := by omega
   subst hkn
   have hc : cpt l = l := by unfold cpt; rw [hn, hcp]; exact List.take_of_length_le (by omega)
   refine ct ?_
   unfold zj
   refine aq ?_
   refine aq ?_
   refine ax ?_
   refine ab (au rfl) ?_
   refine ab (au rfl) ?_
   refine ab (v := vi ((k : Nat) : Int)) (cy rfl (sk Tryz.underlying75 _)) ?_
   refine ab (bz rfl rfl cz) ?_
   refine bp ?_
   refine am ?_
   refine cj rfl (fun hc => ?_) (fun hc => ?_)
   ·exfalso
    simp only [decide_eq_true_eq] at hc
    omega
   ·refine ft ?_
    refine gk ?_
    refine ej ?_
    rw [‹cpt l = l›]
    exact xr (fg rfl (od _)) hK0
 | succ f ih =>
   intro k hf h1 hle hcp
   have hlt : k < n := by omega
   have bsub : ∀ ox oy, binF Tryz.prog .sub 3 ox oy (vi (k : Int)) (vi 1) = some (vi ((k - 1 : Nat) : Int)) := fun ox oy => by
    have hw : wr ((k : Int) - 1) = ((k - 1 : Nat) : Int) := by rw [gb (by omega) (by omega)]; omega
    rw [← hw]; exact ai6
   have badd : ∀ ox oy, binF Tryz.prog .add 3 ox oy (vi (k : Int)) (vi 1) = some (vi ((k + 1 : Nat) : Int)) := fun ox oy => by
    have hw : wr ((k : Int) + 1) = ((k + 1 : Nat) : Int) := by rw [gb (by omega) (by omega)]; omega
    rw [← hw]; exact gm
   obtain ⟨v1, e1, r1⟩ := qp (i := (k : Int)) q (by omega) (by omega)
   obtain ⟨v2, e2, r2⟩ := qp (i := ((k - 1 : Nat) : Int)) q (by omega) (by omega)
   rw [Int.toNat_natCast] at e1 e2
   have hm1 : ((k - 1 : Nat) : Int) = (k : Int) - 1 := by omega
   rw [hm1] at r2
   refine ct ?_
   unfold zj
   refine aq ?_
   refine aq ?_
   refine ax ?_
   refine ab (au rfl) ?_
   refine ab (au rfl) ?_
   refine ab (v := vi ((n : Nat) : Int)) (cy rfl (sk Tryz.underlying75 _)) ?_
   refine ab (bz rfl rfl cz) ?_
   refine bp ?_
   refine am ?_
   refine cj rfl (fun hc => ?_) (fun hc => ?_)
   ·refine bb ?_
    refine am ?_
    refine aq ?_
    refine br ?_
    refine aq ?_
    refine ax ?_
    refine ab (au rfl) ?_
    refine ab (au rfl) ?_
    refine ab (v := .op id ver (0 + k * 2)) (bh rfl rfl (qg 2 (by omega) (by omega))) ?_
    refine ab (ou (k := 0) M rfl rfl e1 (TR.agg aa.t r1)) ?_
    refine ab (au rfl) ?_
    refine ab (au rfl) ?_
    refine ab (bz rfl rfl (bsub _ _)) ?_
    refine ab (v := .op id ver (0 + (k - 1) * 2)) (bh rfl rfl (qg 2 (by omega) (by omega))) ?_
    refine ab (ou (k := 0) M rfl rfl e2 (TR.agg aa.t r2)) ?_
    refine ab (bz rfl rfl (dd6 r1 r2)) ?_
    refine bp ?_
    refine am ?_
    refine cj rfl (fun hd => ?_) (fun hd => ?_)
    ·simp only [decide_eq_true_eq] at hd
     refine aq ?_
     refine ax ?_
     refine ab (au rfl) ?_
     refine ab (au rfl) ?_
     refine ab (v := .os id ver (0 + k * 2) (n - k)) (rg (a := (k : Int)) (b := (n : Int)) rfl rfl rfl (by omega) (by omega) (by omega) (by decide)) ?_
     refine ab (au rfl) ?_
     refine bp ?_
     refine am ?_
     refine aq ?_
     refine aq ?_
     refine ax ?_
     refine ab (v := vi ((1 : Nat) : Int)) (au rfl) ?_
     refine bp ?_
     refine am ?_
     refine br ?_
     have hcp1 : cpF l (k + 1) = l.take k := by rw [yz (by omega) hd, hcp]
     refine pf ?_ (cn3 hn hbig h1 ?_ (n - (k + 1)) 1 k l es h rfl (by omega) (by omega) h1 (by omega) M q hn hcp1.symm (fun j _ _ => rfl))
     ·exact (fg rfl (fg rfl (fg rfl (fg rfl (od _)))))
     ·intro h2 dk es2 kk M2 q2 hlen hk1 hkn hfin
      refine gw ?_
      refine am ?_
      refine aq ?_
      refine dv ?_
      refine bw (ab (au rfl) (bv ?_))
      refine bw (ab (au rfl) (bv ?_))
      refine bw (ab (v := .os id ver (0 + kk * 2) (n - kk)) (rg (a := (kk : Int)) (b := (n : Int)) rfl rfl rfl (by omega) (by omega) (by omega) (by decide)) (bv ?_))
      refine bc4 (k := 0) M2 rfl rfl hkn rfl (fun h3 M3 => ?_)
      replace M3 : Mem h3 (⟨.os id ver 0 kk, 87, 2, es2.take kk⟩ :: R_) := M3
      refine je ?_
      refine am ?_
      refine aq ?_
      refine ax ?_
      refine ab (au rfl) ?_
      refine ab (au rfl) ?_
      refine ab (v := .os id ver 0 kk) (rg (a := 0) (b := (kk : Int)) rfl rfl rfl (by omega) (by omega) (by omega) (by decide)) ?_
      refine ab (au rfl) ?_
      refine bp ?_
      refine am ?_
      have hq3 : All2 aa.t.R (cpt l) (es2.take kk) := by
       have : cpt l = dk.take kk := by unfold cpt; rw [hn, hfin]
       rw [this]; exact q2.take kk
      have hl3 := ad6 l n
      exact ji (.tmp rfl .nil) ⟨_, _, M3, hq3, rfl, by unfold cpt; rw [hn]; omega, .inr ⟨_, _, _, rfl⟩, rfl⟩
    ·simp only [decide_eq_false_iff_not] at hd
     refine bb ?_
     refine de ?_
     refine am ?_
     refine ax ?_
     refine ab (au rfl) ?_
     refine ab (bz rfl rfl (badd _ _)) ?_
     refine ab (au rfl) ?_
     refine bp ?_
     refine di ?_
     refine pf ?_ (ih (k + 1) (by omega) (by omega) (by omega) ?_)
     ·exact (fg rfl (fg rfl (od _)))
     ·rw [ti (.inr hd), hcp, yu (by omega)]
   ·exfalso
    simp only [decide_eq_false_iff_not] at hc
    omega
theorem cd4 {x0 : List aa} {a0 : PV} {es0 : List PV} {R_ : List Ent} {h_ : Heap} (q : All2 aa.t.R x0 es0) (ne : isL a0 = true) (hl : x0.length ≤ 4611686018427387904) (wi : Wri a0 es0) (M : Mem h_ (⟨a0, 87, 2, es0⟩ :: R_)) : ∃ r h2_, FnX Tryz.prog 142 [a0] h_ r h2_ ∧ RF142 R_ (cpt x0) r h2_ := by
 suffices H : RC Tryz.prog bs9 [] (retPost Tryz.prog [(2, none)] (RF142 R_ (cpt x0))) (argE 0 [a0]) h_ by
  exact fnX bf1 (by simp) H
 unfold bs9
 refine aq ?_
 refine ax ?_
 refine ab (au rfl) ?_
 refine bp ?_
 refine am ?_
 refine aq ?_
 refine aq ?_
 refine ax ?_
 refine ab (au rfl) ?_
 refine ab (cy rfl (bm9 (k := 0) M rfl Tryz.underlying75 ne q _)) ?_
 refine ab (bz rfl rfl cz) ?_
 refine bp ?_
 refine am ?_
 refine cj rfl (fun hc => ?_) (fun hc => ?_)
 ·simp only [decide_eq_true_eq] at hc
  refine aq ?_
  refine ax ?_
  refine ab (au rfl) ?_
  refine ab (au rfl) ?_
  refine bp ?_
  refine am ?_
  rw [al1 (by omega)]
  exact ji (.tmp rfl .nil) ⟨a0, es0, M, q, ne, hl, wi, rfl⟩
 ·simp only [decide_eq_false_iff_not] at hc
  obtain ⟨id, ver, n, rfl⟩ := wy (i := 0) wi q (by omega) (by omega)
  have hn : x0.length = n := by rw [qr M (k := 0) rfl, All2.length_eq q]
  refine bb ?_
  refine am ?_
  refine aq ?_
  refine aq ?_
  refine ax ?_
  refine ab (v := vi ((1 : Nat) : Int)) (au rfl) ?_
  refine bp ?_
  refine am ?_
  refine br ?_
  refine pf ?_ (cj2 hn (by omega) q M ?_ (n - 1) 1 rfl (by omega) (by omega) ?_)
  ·exact (fg rfl (fg rfl (od _)))
  ·refine gw ?_
   refine am ?_
   refine aq ?_
   refine ax ?_
   refine ab (au rfl) ?_
   refine ab (au rfl) ?_
   refine bp ?_
   refine am ?_
   exact ji (.tmp rfl .nil) ⟨_, es0, M, q, ne, hl, wi, rfl⟩
  ·rw [ti (.inl rfl), yu (by omega)]
   rfl
theorem dh2 {ox oy : Operand} {a b : Int} {va vb' : PV} (ra : tI.R a va) (rb : tI.R b vb') : binF Tryz.prog .eql 3 ox oy va vb' = some (vb (decide (a = b))) := by
 have ra : va = vi a := ra; have rb : vb' = vi b := rb; subst ra; subst rb
 exact fe
theorem dc7 {ox oy : Operand} {a b : Int} {va vb' : PV} (ra : tI.R a va) (rb : tI.R b vb') : binF Tryz.prog .neq 3 ox oy va vb' = some (vb (!decide (a = b))) := by
 have ra : va = vi a := ra; have rb : vb' = vi b := rb; subst ra; subst rb
 exact mw
def RF144 (R_ : List Ent) (res : List Int) (r : PV) (h : Heap) : Prop := ∃ a : PV, ∃ es : List PV, Mem h (⟨a, 3, 1, es⟩ :: R_) ∧ All2 tI.R res es ∧ isL a = true ∧ res.length ≤ 4611686018427387904 ∧ Wri a es ∧ r = a
theorem cv5 {S : List Fr} {R_ : List Ent} {l : List Int} {id ver n k0 : Nat} (hn : l.length = n) (hbig : n ≤ 4611686018427387904) (h0 : 1 ≤ k0)
 (hK : ∀ (h : Heap) (dk : List Int) (es : List PV) (kk : Nat), Mem h (⟨.os id ver 0 n, 3, 1, es⟩ :: R_) → All2 tI.R dk es → dk.length = n → 1 ≤ kk → kk < n → dk.take kk = cpF l n → PX Tryz.prog 2 S (retPost Tryz.prog [(2, none)] (RF144 R_ (cpt l))) [(3, vi (kk : Int)), (0, .os id ver 0 n)] h) :
 ∀ (f : Nat) (k2 kk : Nat) (dk : List Int) (es : List PV) (h : Heap), f = n - (k0 + k2) → 1 ≤ k2 → k0 + k2 ≤ n → 1 ≤ kk → kk < k0 + k2 → Mem h (⟨.os id ver 0 n, 3, 1, es⟩ :: R_) → All2 tI.R dk es → dk.length = n → dk.take kk = cpF l (k0 + k2) → (∀ j : Nat, kk ≤ j → j < n → ix dk (j : Int) = ix l (j : Int)) →
   RC Tryz.prog (.loop zi) S (retPost Tryz.prog [(2, none)] (RF144 R_ (cpt l))) [(5, vi (k2 : Int)), (4, .os id ver (0 + k0 * 1) (n - k0)), (3, vi (kk : Int)), (0, .os id ver 0 n)] h := by
 intro f
 induction f with
 | zero =>
   intro k2 kk dk es h hf h1 hle hk1 hkm M q hlen hcp hix
   refine ct ?_
   unfold zi
   refine aq ?_
   refine aq ?_
   refine ax ?_
   refine ab (au rfl) ?_
   refine ab (au rfl) ?_
   refine ab (v := vi ((n - k0 : Nat) : Int)) (cy rfl (sk Tryz.underlying29 _)) ?_
   refine ab (bz rfl rfl cz) ?_
   refine bp ?_
   refine am ?_
   refine cj rfl (fun hc => ?_) (fun hc => ?_)
   ·exfalso
    simp only [decide_eq_true_eq] at hc
    omega
   ·refine ft ?_
    refine gk ?_
    refine ej ?_
    refine xr (fg rfl (fg rfl (od _))) (hK h dk es kk M q hlen hk1 (by omega) (by rw [hcp]; congr 1; omega))
 | succ f ih =>
   intro k2 kk dk es h hf h1 hle hk1 hkm M q hlen hcp hix
   have hlt : k0 + k2 < n := by omega
   have bsub : ∀ ox oy, binF Tryz.prog .sub 3 ox oy (vi (k2 : Int)) (vi 1) = some (vi ((k2 - 1 : Nat) : Int)) := fun ox oy => by
    have hw : wr ((k2 : Int) - 1) = ((k2 - 1 : Nat) : Int) := by rw [gb (by omega) (by omega)]; omega
    rw [← hw]; exact ai6
   have badd : ∀ (z : Nat), z ≤ n → ∀ ox oy, binF Tryz.prog .add 3 ox oy (vi (z : Int)) (vi 1) = some (vi ((z + 1 : Nat) : Int)) := fun z hz ox oy => by
    have hw : wr ((z : Int) + 1) = ((z + 1 : Nat) : Int) := by rw [gb (by omega) (by omega)]; omega
    rw [← hw]; exact gm
   have ad : ∀ z : Nat, z < n - k0 → idxR 1 (.os id ver (0 + k0 * 1) (n - k0)) (vi (z : Int)) = some (.op id ver (0 + (k0 + z) * 1)) := fun z hz => by
    have he : 0 + k0 * 1 + (z : Int).toNat * 1 = 0 + (k0 + z) * 1 := by rw [Int.toNat_natCast]; omega
    rw [← he]; exact qg 1 (by omega) (by omega)
   obtain ⟨v1, e1, r1⟩ := qp (i := ((k0 + k2 : Nat) : Int)) q (by omega) (by omega)
   obtain ⟨v2, e2, r2⟩ := qp (i := ((k0 + (k2 - 1) : Nat) : Int)) q (by omega) (by omega)
   rw [Int.toNat_natCast] at e1 e2
   rw [hix _ (by omega) hlt] at r1
   rw [hix _ (by omega) (by omega)] at r2
   have hm1 : ((k0 + (k2 - 1) : Nat) : Int) = ((k0 + k2 : Nat) : Int) - 1 := by omega
   rw [hm1] at r2
   refine ct ?_
   unfold zi
   refine aq ?_
   refine aq ?_
   refine ax ?_
   refine ab (au rfl) ?_
   refine ab (au rfl) ?_
   refine ab (v := vi ((n - k0 : Nat) : Int)) (cy rfl (sk Tryz.underlying29 _)) ?_
   refine ab (bz rfl rfl cz) ?_
   refine bp ?_
   refine am ?_
   refine cj rfl (fun hc => ?_) (fun hc => ?_)
   ·refine bb ?_
    refine am ?_
    refine aq ?_
    refine br ?_
    refine aq ?_
    refine ax ?_
    refine ab (au rfl) ?_
    refine ab (au rfl) ?_
    refine ab (bh rfl rfl (ad k2 (by omega))) ?_
    refine ab (ou (k := 0) M rfl rfl e1 (TR.agg tI r1)) ?_
    refine ab (au rfl) ?_
    refine ab (au rfl) ?_
    refine ab (bz rfl rfl (bsub _ _)) ?_
    refine ab (bh rfl rfl (ad (k2 - 1) (by omega))) ?_
    refine ab (ou (k := 0) M rfl rfl e2 (TR.agg tI r2)) ?_
    refine ab (bz rfl rfl (dc7 r1 r2)) ?_
    refine bp ?_
    refine am ?_
    refine cj rfl (fun hd => ?_) (fun hd => ?_)
    ·simp only [Bool.not_eq_true', decide_eq_false_iff_not] at hd
     refine aq ?_
     refine ax ?_
     refine ab (au rfl) ?_
     refine ab (au rfl) ?_
     refine ab (au rfl) ?_
     refine ab (au rfl) ?_
     refine ab (bh rfl rfl (ad k2 (by omega))) ?_
     refine ab (ou (k := 0) M rfl rfl e1 (TR.agg tI r1)) ?_
     refine ab (v := .op id ver (0 + kk * 1)) (bh rfl rfl (qg 1 (by omega) (by omega))) ?_
     refine tu (k := 0) (i := kk) (v := v1) M rfl rfl rfl (by rw [All2.length_eq q]; omega) (TR.cnt tI r1) (fun h2 M2 => ?_)
     replace M2 : Mem h2 (⟨.os id ver 0 n, 3, 1, es.set kk v1⟩ :: R_) := M2
     refine bp ?_
     refine am ?_
     refine ax ?_
     refine ab (au rfl) ?_
     refine ab (bz rfl rfl (badd kk (by omega) _ _)) ?_
     refine ab (au rfl) ?_
     refine bp ?_
     refine de ?_
     refine am ?_
     refine ax ?_
     refine ab (au rfl) ?_
     refine ab (bz rfl rfl (badd k2 (by omega) _ _)) ?_
     refine ab (au rfl) ?_
     refine bp ?_
     refine di ?_
     have q2 : All2 tI.R (dk.set kk (ix l ((k0 + k2 : Nat) : Int))) (es.set kk v1) := q.set r1
     refine pf ?_ (ih (k2 + 1) (kk + 1) (dk.set kk (ix l ((k0 + k2 : Nat) : Int))) (es.set kk v1) h2 (by omega) (by omega) (by omega) (by omega) (by omega) M2 q2 (by simp [hlen]) ?_ ?_)
     ·exact (fg rfl (fg rfl (fg rfl (fg rfl (od _)))))
     ·rw [show k0 + (k2 + 1) = (k0 + k2) + 1 by omega, ti (.inr hd), ← hcp, List.take_add_one, List.getElem?_set_self (by omega), List.take_set_of_le (Nat.le_refl _)]
      rfl
     ·intro j hj hjn
      have hs : ∀ x : Int, ix (dk.set kk x) (j : Int) = ix dk (j : Int) := fun x => by
       simp only [ix, Int.toNat_natCast, List.getD_eq_getElem?_getD]
       rw [List.getElem?_set_ne (by omega)]
      rw [hs]
      exact hix j (by omega) hjn
    ·simp only [Bool.not_eq_false', decide_eq_true_eq] at hd
     refine bb ?_
     refine de ?_
     refine am ?_
     refine ax ?_
     refine ab (au rfl) ?_
     refine ab (bz rfl rfl (badd k2 (by omega) _ _)) ?_
     refine ab (au rfl) ?_
     refine bp ?_
     refine di ?_
     refine pf ?_ (ih (k2 + 1) kk dk es h (by omega) (by omega) (by omega) hk1 (by omega) M q hlen ?_ hix)
     ·exact (fg rfl (fg rfl (fg rfl (fg rfl (od _)))))
     ·rw [show k0 + (k2 + 1) = (k0 + k2) + 1 by omega, yz (by omega) hd]
      exact hcp
   ·exfalso
    simp only [decide_eq_false_iff_not] at hc
    omega
theorem ci1 {R_ : List Ent} {l : List Int} {es : List PV} {id ver n : Nat} {h : Heap} {S : List Fr} (hn : l.length = n) (hbig : n ≤ 4611686018427387904) (q : All2 tI.R l es) (M : Mem h (⟨.os id ver 0 n, 3, 1, es⟩ :: R_))
 (hK0 : PX Tryz.prog 0 S (retPost Tryz.prog [(2, none)] (RF144 R_ l)) [(0, .os id ver 0 n)] h) :
 ∀ (f k : Nat), f = n - k → 1 ≤ k → k ≤ n → cpF l k = l.take k → RC Tryz.prog (.loop yt) S (retPost Tryz.prog [(2, none)] (RF144 R_ (cpt l))) [(3, vi (k : Int)), (0, .os id ver 0 n)] h := by
 intro f
 induction f with
 | zero =>
   intro k hf h1 hle hcp
   have hkn : k = n := by omega
   subst hkn
   have hc : cpt l = l := by unfold cpt; rw [hn, hcp]; exact List.take_of_length_le (by omega)
   refine ct ?_
   unfold yt
   refine aq ?_
   refine aq ?_
   refine ax ?_
   refine ab (au rfl) ?_
   refine ab (au rfl) ?_
   refine ab (v := vi ((k : Nat) : Int)) (cy rfl (sk Tryz.underlying29 _)) ?_
   refine ab (bz rfl rfl cz) ?_
   refine bp ?_
   refine am ?_
   refine cj rfl (fun hc => ?_) (fun hc => ?_)
   ·exfalso
    simp only [decide_eq_true_eq] at hc
    omega
   ·refine ft ?_
    refine gk ?_
    refine ej ?_
    rw [‹cpt l = l›]
    exact xr (fg rfl (od _)) hK0
 | succ f ih =>
   intro k hf h1 hle hcp
   have hlt : k < n := by omega
   have bsub : ∀ ox oy, binF Tryz.prog .sub 3 ox oy (vi (k : Int)) (vi 1) = some (vi ((k - 1 : Nat) : Int)) := fun ox oy => by
    have hw : wr ((k : Int) - 1) = ((k - 1 : Nat) : Int) := by rw [gb (by omega) (by omega)]; omega
    rw [← hw]; exact ai6
   have badd : ∀ ox oy, binF Tryz.prog .add 3 ox oy (vi (k : Int)) (vi 1) = some (vi ((k + 1 : Nat) : Int)) := fun ox oy => by
    have hw : wr ((k : Int) + 1) = ((k + 1 : Nat) : Int) := by rw [gb (by omega) (by omega)]; omega
    rw [← hw]; exact gm
   obtain ⟨v1, e1, r1⟩ := qp (i := (k : Int)) q (by omega) (by omega)
   obtain ⟨v2, e2, r2⟩ := qp (i := ((k - 1 : Nat) : Int)) q (by omega) (by omega)
   rw [Int.toNat_natCast] at e1 e2
   have hm1 : ((k - 1 : Nat) : Int) = (k : Int) - 1 := by omega
   rw [hm1] at r2
   refine ct ?_
   unfold yt
   refine aq ?_
   refine aq ?_
   refine ax ?_
   refine ab (au rfl) ?_
   refine ab (au rfl) ?_
   refine ab (v := vi ((n : Nat) : Int)) (cy rfl (sk Tryz.underlying29 _)) ?_
   refine ab (bz rfl rfl cz) ?_
   refine bp ?_
   refine am ?_
   refine cj rfl (fun hc => ?_) (fun hc => ?_)
   ·refine bb ?_
    refine am ?_
    refine aq ?_
    refine br ?_
    refine aq ?_
    refine ax ?_
    refine ab (au rfl) ?_
    refine ab (au rfl) ?_
    refine ab (v := .op id ver (0 + k * 1)) (bh rfl rfl (qg 1 (by omega) (by omega))) ?_
    refine ab (ou (k := 0) M rfl rfl e1 (TR.agg tI r1)) ?_
    refine ab (au rfl) ?_
    refine ab (au rfl) ?_
    refine ab (bz rfl rfl (bsub _ _)) ?_
    refine ab (v := .op id ver (0 + (k - 1) * 1)) (bh rfl rfl (qg 1 (by omega) (by omega))) ?_
    refine ab (ou (k := 0) M rfl rfl e2 (TR.agg tI r2)) ?_
    refine ab (bz rfl rfl (dh2 r1 r2)) ?_
    refine bp ?_
    refine am ?_
    refine cj rfl (fun hd => ?_) (fun hd => ?_)
    ·simp only [decide_eq_true_eq] at hd
     refine aq ?_
     refine ax ?_
     refine ab (au rfl) ?_
     refine ab (au rfl) ?_
     refine ab (v := .os id ver (0 + k * 1) (n - k)) (rg (a := (k : Int)) (b := (n : Int)) rfl rfl rfl (by omega) (by omega) (by omega) (by decide)) ?_
     refine ab (au rfl) ?_
     refine bp ?_
     refine am ?_
     refine aq ?_
     refine aq ?_
     refine ax ?_
     refine ab (v := vi ((1 : Nat) : Int)) (au rfl) ?_
     refine bp ?_
     refine am ?_
     refine br ?_
     have hcp1 : cpF l (k + 1) = l.take k := by rw [yz (by omega) hd, hcp]
     refine pf ?_ (cv5 hn hbig h1 ?_ (n - (k + 1)) 1 k l es h rfl (by omega) (by omega) h1 (by omega) M q hn hcp1.symm (fun j _ _ => rfl))
     ·exact (fg rfl (fg rfl (fg rfl (fg rfl (od _)))))
     ·intro h2 dk es2 kk M2 q2 hlen hk1 hkn hfin
      refine gw ?_
      refine am ?_
      refine aq ?_
      refine dv ?_
      refine bw (ab (au rfl) (bv ?_))
      refine bw (ab (au rfl) (bv ?_))
      refine bw (ab (v := .os id ver (0 + kk * 1) (n - kk)) (rg (a := (kk : Int)) (b := (n : Int)) rfl rfl rfl (by omega) (by omega) (by omega) (by decide)) (bv ?_))
      refine bc4 (k := 0) M2 rfl rfl hkn rfl (fun h3 M3 => ?_)
      replace M3 : Mem h3 (⟨.os id ver 0 kk, 3, 1, es2.take kk⟩ :: R_) := M3
      refine je ?_
      refine am ?_
      refine aq ?_
      refine ax ?_
      refine ab (au rfl) ?_
      refine ab (au rfl) ?_
      refine ab (v := .os id ver 0 kk) (rg (a := 0) (b := (kk : Int)) rfl rfl rfl (by omega) (by omega) (by omega) (by decide)) ?_
      refine ab (au rfl) ?_
      refine bp ?_
      refine am ?_
      have hq3 : All2 tI.R (cpt l) (es2.take kk) := by
       have : cpt l = dk.take kk := by unfold cpt; rw [hn, hfin]
       rw [this]; exact q2.take kk
      have hl3 := ad6 l n
      exact ji (.tmp rfl .nil) ⟨_, _, M3, hq3, rfl, by unfold cpt; rw [hn]; omega, .inr ⟨_, _, _, rfl⟩, rfl⟩
    ·simp only [decide_eq_false_iff_not] at hd
     refine bb ?_
     refine de ?_
     refine am ?_
     refine ax ?_
     refine ab (au rfl) ?_
     refine ab (bz rfl rfl (badd _ _)) ?_
     refine ab (au rfl) ?_
     refine bp ?_
     refine di ?_
     refine pf ?_ (ih (k + 1) (by omega) (by omega) (by omega) ?_)
     ·exact (fg rfl (fg rfl (od _)))
     ·rw [ti (.inr hd), hcp, yu (by omega)]
   ·exfalso
    simp only [decide_eq_false_iff_not] at hc
    omega
theorem bw8 {x0 : List Int} {a0 : PV} {es0 : List PV} {R_ : List Ent} {h_ : Heap} (q : All2 tI.R x0 es0) (ne : isL a0 = true) (hl : x0.length ≤ 4611686018427387904) (wi : Wri a0 es0) (M : Mem h_ (⟨a0, 3, 1, es0⟩ :: R_)) : ∃ r h2_, FnX Tryz.prog 144 [a0] h_ r h2_ ∧ RF144 R_ (cpt x0) r h2_ := by
 suffices H : RC Tryz.prog cd3 [] (retPost Tryz.prog [(2, none)] (RF144 R_ (cpt x0))) (argE 0 [a0]) h_ by
  exact fnX bd2 (by simp) H
 unfold cd3
 refine aq ?_
 refine ax ?_
 refine ab (au rfl) ?_
 refine bp ?_
 refine am ?_
 refine aq ?_
 refine aq ?_
 refine ax ?_
 refine ab (au rfl) ?_
 refine ab (cy rfl (bm9 (k := 0) M rfl Tryz.underlying29 ne q _)) ?_
 refine ab (bz rfl rfl cz) ?_
 refine bp ?_
 refine am ?_
 refine cj rfl (fun hc => ?_) (fun hc => ?_)
 ·simp only [decide_eq_true_eq] at hc
  refine aq ?_
  refine ax ?_
  refine ab (au rfl) ?_
  refine ab (au rfl) ?_
  refine bp ?_
  refine am ?_
  rw [al1 (by omega)]
  exact ji (.tmp rfl .nil) ⟨a0, es0, M, q, ne, hl, wi, rfl⟩
 ·simp only [decide_eq_false_iff_not] at hc
  obtain ⟨id, ver, n, rfl⟩ := wy (i := 0) wi q (by omega) (by omega)
  have hn : x0.length = n := by rw [qr M (k := 0) rfl, All2.length_eq q]
  refine bb ?_
  refine am ?_
  refine aq ?_
  refine aq ?_
  refine ax ?_
  refine ab (v := vi ((1 : Nat) : Int)) (au rfl) ?_
  refine bp ?_
  refine am ?_
  refine br ?_
  refine pf ?_ (ci1 hn (by omega) q M ?_ (n - 1) 1 rfl (by omega) (by omega) ?_)
  ·exact (fg rfl (fg rfl (od _)))
  ·refine gw ?_
   refine am ?_
   refine aq ?_
   refine ax ?_
   refine ab (au rfl) ?_
   refine ab (au rfl) ?_
   refine bp ?_
   refine am ?_
   exact ji (.tmp rfl .nil) ⟨_, es0, M, q, ne, hl, wi, rfl⟩
  ·rw [ti (.inl rfl), yu (by omega)]
   rfl
theorem dq0 (a b : Int) : kp a b = if a < b then -1 else if b < a then 1 else 0 := by
 unfold kp pm
 simp [LET]
theorem or2 (a b : Int) : qm [a, b] = if a ≠ 0 then a else b := by
 unfold qm
 by_cases h : a = 0
 ·by_cases h2 : b = 0
  ·simp [mi, ix, h, h2]
  ·simp [mi, ix, h, h2]
 ·simp [mi, ix, h]
theorem bk5 (x y : aa) : Go.Proofs.ltOf kg x y = decide (x.Header < y.Header ∨ (x.Header = y.Header ∧ x.Field < y.Field)) := by
 unfold Go.Proofs.ltOf kg
 simp only [LET, or2, dq0]
 congr 1
 rw [eq_iff_iff]
 repeat' split
 all_goals omega
theorem da9 : Go.Sort.SWO (Go.Proofs.ltOf kg) where
 irrefl x := by rw [bk5]; simp
 trans x y z h1 h2 := by rw [bk5] at *; simp at *; omega
 ntrans x y z h1 h2 := by rw [bk5] at *; simp at *; omega
theorem cd1 (x y : aa) (h1 : Go.Proofs.ltOf kg x y = false) (h2 : Go.Proofs.ltOf kg y x = false) : x = y := by
 rw [bk5] at h1 h2
 obtain ⟨a, b⟩ := x
 obtain ⟨c, d⟩ := y
 simp at h1 h2
 have e1 : a = c := by omega
 subst e1
 have e2 : b = d := by omega
 subst e2
 rfl
def frmk (x : aa) : PV := .agg [vi x.Header, vi x.Field]
def frenc (x : aa) : List Value := [.int .i64 x.Header, .int .i64 x.Field]
theorem bn3 (x y : aa) : Go.Proofs.ltOf fd x y = decide (x.Header < y.Header ∨ (x.Header = y.Header ∧ x.Field < y.Field)) := by
 unfold Go.Proofs.ltOf fd
 simp only [LET, or2, dq0]
 congr 1
 rw [eq_iff_iff]
 repeat' split
 all_goals omega
theorem cz5 : Go.Sort.SWO (Go.Proofs.ltOf fd) where
 irrefl x := by rw [bn3]; simp
 trans x y z h1 h2 := by rw [bn3] at *; simp at *; omega
 ntrans x y z h1 h2 := by rw [bn3] at *; simp at *; omega
theorem bv9 (x y : aa) (h1 : Go.Proofs.ltOf fd x y = false) (h2 : Go.Proofs.ltOf fd y x = false) : x = y := by
 rw [bn3] at h1 h2
 obtain ⟨a, b⟩ := x
 obtain ⟨c, d⟩ := y
 simp at h1 h2
 have e1 : a = c := by omega
 subst e1
 have e2 : b = d := by omega
 subst e2
 rfl
end Go.Proofs.YtmonnlkagniolaaGreat
