/-
  The code of each function does what its plain program says.
-/
import Derived.Test.YtmonnlkagniolaaGreatL11W2
set_option linter.unusedVariables false
set_option linter.unusedSimpArgs false
set_option maxRecDepth 100000
namespace Go.Proofs.YtmonnlkagniolaaGreat
open Go Go.Pb Go.RowKit
def RF187 (res : (List UInt8)) (r : PV) : Prop := (tSl tU8).R res r
theorem env_join_byte_L1_ok {S : List Fr} {res : (List UInt8)} {x0 : List (List UInt8)} {v0 : PV} (r0 : (tSl (tSl tU8)).R x0 v0) (hb : ∀ l ∈ x0, l.length ≤ 1048576) (hc : x0.length ≤ 1) {K0 : (List UInt8) → (List UInt8)}
    (c3 : ∀ {a1 : List UInt8} {a0 : List PV} {a2 : PV} (a4 : All2 tU8.R a1 a0) (a6 : isL a2 = true) (a3 : Wri a2 a0) (a5 : a1.length ≤ 4611686018427387904) {h : Heap} (M0 : Mem h [⟨a2, 5, 1, a0⟩]), K0 a1 = res → PX Tryz.prog 0 S (QR Tryz.prog [(2, none)] (RF187 res)) [(3, a2)] h) :
    ∀ {m : Nat} {a7 : Int} {a1 : List UInt8} {a0 : List PV} {a2 : PV} (a4 : All2 tU8.R a1 a0) (a6 : isL a2 = true) (a3 : Wri a2 a0) (a5 : a1.length ≤ 4611686018427387904) (c1 : m = Int.toNat ((x0.length : Int) - a7)) (b6 : 0 ≤ a7) (a9 : (a1.length : Int) ≤ 1048576 * a7) {h : Heap} (M0 : Mem h [⟨a2, 5, 1, a0⟩]), env_join_byte_L1 x0 K0 m a7 a1 = res → RC Tryz.prog (.loop ac187_L1) S (QR Tryz.prog [(2, none)] (RF187 res)) [(8, vi a7), (7, vi (x0.length : Int)), (6, v0), (3, a2)] h := by
  have hb' := hb
  try simp only [qa, qaD] at hb'
  have hc' := hc
  try simp only [qa, qaD] at hc'
  intro m
  induction m with
  | zero =>
    intro a7 a1 a0 a2 a4 a6 a3 a5 c1 b6 a9 h M0 hres
    rw [env_join_byte_L1] at hres
    refine rc_loop ?_
    refine sR ?_
    refine bN i_lss rfl rfl ?_
    refine nS ?_
    refine rc_seq ?_
    refine rc_cond rfl ?_ ?_ <;> intro c <;> try simp only [qa, qaD] at c
    · omega
    refine rc_exit ?_
    refine px_seq ?_
    refine px_again ?_
    exact wP (c3 a4 a6 a3 a5 (Mem.sub M0 (.cons_cons _ .slnil)) hres) rfl
  | succ m ih =>
    intro a7 a1 a0 a2 a4 a6 a3 a5 c1 b6 a9 h M0 hres
    rw [env_join_byte_L1] at hres
    refine rc_loop ?_
    refine sR ?_
    refine bN i_lss rfl rfl ?_
    refine nS ?_
    refine rc_seq ?_
    refine rc_cond rfl ?_ ?_ <;> intro c <;> try simp only [qa, qaD] at c
    rotate_left
    · omega
    refine rc_skip ?_
    refine pn_seq ?_
    refine rc_seq ?_
    refine rc_block ?_
    refine sR ?_
    obtain ⟨c5, b8, b5⟩ := sl_idx (i := a7) r0 (by omega) (by omega)
    refine rd_op (ov_iaddr rfl rfl b8) ?_
    refine lD b5 rfl rfl rfl ?_
    refine mV rfl ?_
    refine nS ?_
    refine rc_region ?_
    refine mV rfl ?_
    refine mV rfl ?_
    obtain ⟨a8, b2, b0⟩ := src_of (t := tU8) (h := h) b5
    have b4 : fits (a0.length + a8.length) 1 = true := by rw [All2.length_eq a4, All2.length_eq b0]; (try simp only [List.length_cons, List.length_nil]); exact fits_of (by (have hk := jn_ix hb (i := a7) (by omega) (by omega); omega)) (by (have hk := jn_ix hb (i := a7) (by omega) (by omega); omega))
    refine rd_appW (k := 0) (es := a0) (news := a8) M0 rfl rfl rfl a6 a3 b2 b4 (fun c4 c2 c0 b3 b9 => ?_)
    have b1 : All2 tU8.R (a1 ++ (ix x0 a7)) (a0 ++ a8) := All2.app a4 b0
    have b7 : (a1 ++ (ix x0 a7)).length ≤ 4611686018427387904 := by rw [← All2.length_eq b1, List.length_append]; exact fits_len b4
    refine mV rfl ?_
    refine rd_nil ?_
    refine pn_blk ?_
    refine pn_seq ?_
    refine rc_region ?_
    refine bN i_add rfl rfl ?_
    refine mV rfl ?_
    refine rd_nil ?_
    refine pn_again ?_
    have hbd := sl_bound r0
    have hinc : wr (a7 + 1) = a7 + 1 := wr_of (by omega) (by omega)
    erw [hinc]
    exact wC (ih  b1 c0 b3 b7 (by omega) (by omega) (by (have hk := jn_ix hb (i := a7) (by omega) (by omega); simp only [List.length_append]; omega)) (Mem.sub b9 (.cons_cons _ .slnil)) hres) rfl

theorem f187_ok {x0 : List (List UInt8)} {v0 : PV} (r0 : (tSl (tSl tU8)).R x0 v0) (hb : ∀ l ∈ x0, l.length ≤ 1048576) (hc : x0.length ≤ 1) : ∃ r, FnR Tryz.prog 187 [v0] r ∧ (tSl tU8).R (env_join_byte x0) r := by
  refine fnT (R := RF187) text187 rfl fun res hres => ?_
  unfold env_join_byte at hres
  refine sR ?_
  refine rd_op (v := nilS) (ov_move rfl) ?_
  refine nR ?_
  refine rd_op (v := nilS) (ov_move rfl) ?_
  refine nS ?_
  refine rc_seq ?_
  refine sR ?_
  refine mV rfl ?_
  refine rd_op (ov_bi rfl (sl_len r0 Tryz.underlying259 _)) ?_
  refine mI rfl ?_
  refine nS ?_
  refine rc_block ?_
  have a9 := mem_acc (sz := 1) (es := []) (Mem.nil ⟨0, []⟩) 5 (.inl ⟨none, rfl, rfl⟩) (by simp)
  refine wC (env_join_byte_L1_ok r0 hb hc ?_  aL rfl (.inl rfl) (by first | decide | simp) rfl (by omega) (by simp) (Mem.sub a9 (.cons_cons _ .slnil)) hres) rfl
  · intro a5 a3 a6 a1 a2 a4 a0 b2 a8 hres
    refine px_blk ?_
    refine pn_seq ?_
    refine sR ?_
    refine mV rfl ?_
    refine mV rfl ?_
    refine nS ?_
    obtain ⟨b1, a7, b0⟩ := own_sl (P := Tryz.prog) (k := 0) (t := tU8) a8 rfl a2 a1 (Nat.le_trans a0 (by decide))
    subst hres
    exact rc_retV (.tmp rfl .nil) a7 b0
def RF187x (R_ : List Ent) (res : (List UInt8)) (r : PV) (h : Heap) : Prop := ∃ asR0_ : PV, ∃ esR0_ : List PV, Mem h (⟨asR0_, 5, 1, esR0_⟩ :: R_) ∧ (All2 tU8.R res esR0_) ∧ (isL asR0_ = true) ∧ (res.length ≤ 4611686018427387904) ∧ (Wri asR0_ esR0_) ∧ r = asR0_
theorem env_join_byte_L1x_ok {S : List Fr} {res : (List UInt8)} {x0 : List (List UInt8)} {v0 : PV} {R_ : List Ent} (r0 : (tSl (tSl tU8)).R x0 v0) (hb : ∀ l ∈ x0, l.length ≤ 1048576) (hc : x0.length ≤ 1) {K0 : (List UInt8) → (List UInt8)}
    (c3 : ∀ {a1 : List UInt8} {a0 : List PV} {a2 : PV} (a4 : All2 tU8.R a1 a0) (a6 : isL a2 = true) (a3 : Wri a2 a0) (a5 : a1.length ≤ 4611686018427387904) {h : Heap} (M0 : Mem h (⟨a2, 5, 1, a0⟩ :: R_)), K0 a1 = res → PX Tryz.prog 0 S (retPost Tryz.prog [(2, none)] (RF187x R_ res)) [(3, a2)] h) :
    ∀ {m : Nat} {a7 : Int} {a1 : List UInt8} {a0 : List PV} {a2 : PV} (a4 : All2 tU8.R a1 a0) (a6 : isL a2 = true) (a3 : Wri a2 a0) (a5 : a1.length ≤ 4611686018427387904) (c1 : m = Int.toNat ((x0.length : Int) - a7)) (b6 : 0 ≤ a7) (a9 : (a1.length : Int) ≤ 1048576 * a7) {h : Heap} (M0 : Mem h (⟨a2, 5, 1, a0⟩ :: R_)), env_join_byte_L1 x0 K0 m a7 a1 = res → RC Tryz.prog (.loop ac187_L1) S (retPost Tryz.prog [(2, none)] (RF187x R_ res)) [(8, vi a7), (7, vi (x0.length : Int)), (6, v0), (3, a2)] h := by
  have hb' := hb
  try simp only [qa, qaD] at hb'
  have hc' := hc
  try simp only [qa, qaD] at hc'
  intro m
  induction m with
  | zero =>
    intro a7 a1 a0 a2 a4 a6 a3 a5 c1 b6 a9 h M0 hres
    rw [env_join_byte_L1] at hres
    refine rc_loop ?_
    refine sR ?_
    refine bN i_lss rfl rfl ?_
    refine nS ?_
    refine rc_seq ?_
    refine rc_cond rfl ?_ ?_ <;> intro c <;> try simp only [qa, qaD] at c
    · omega
    refine rc_exit ?_
    refine px_seq ?_
    refine px_again ?_
    exact wP (c3 a4 a6 a3 a5 (Mem.sub M0 (.cons_cons _ (List.Sublist.refl R_))) hres) rfl
  | succ m ih =>
    intro a7 a1 a0 a2 a4 a6 a3 a5 c1 b6 a9 h M0 hres
    rw [env_join_byte_L1] at hres
    refine rc_loop ?_
    refine sR ?_
    refine bN i_lss rfl rfl ?_
    refine nS ?_
    refine rc_seq ?_
    refine rc_cond rfl ?_ ?_ <;> intro c <;> try simp only [qa, qaD] at c
    rotate_left
    · omega
    refine rc_skip ?_
    refine pn_seq ?_
    refine rc_seq ?_
    refine rc_block ?_
    refine sR ?_
    obtain ⟨c5, b8, b5⟩ := sl_idx (i := a7) r0 (by omega) (by omega)
    refine rd_op (ov_iaddr rfl rfl b8) ?_
    refine lD b5 rfl rfl rfl ?_
    refine mV rfl ?_
    refine nS ?_
    refine rc_region ?_
    refine mV rfl ?_
    refine mV rfl ?_
    obtain ⟨a8, b2, b0⟩ := src_of (t := tU8) (h := h) b5
    have b4 : fits (a0.length + a8.length) 1 = true := by rw [All2.length_eq a4, All2.length_eq b0]; (try simp only [List.length_cons, List.length_nil]); exact fits_of (by (have hk := jn_ix hb (i := a7) (by omega) (by omega); omega)) (by (have hk := jn_ix hb (i := a7) (by omega) (by omega); omega))
    refine rd_appW (k := 0) (es := a0) (news := a8) M0 rfl rfl rfl a6 a3 b2 b4 (fun c4 c2 c0 b3 b9 => ?_)
    have b1 : All2 tU8.R (a1 ++ (ix x0 a7)) (a0 ++ a8) := All2.app a4 b0
    have b7 : (a1 ++ (ix x0 a7)).length ≤ 4611686018427387904 := by rw [← All2.length_eq b1, List.length_append]; exact fits_len b4
    refine mV rfl ?_
    refine rd_nil ?_
    refine pn_blk ?_
    refine pn_seq ?_
    refine rc_region ?_
    refine bN i_add rfl rfl ?_
    refine mV rfl ?_
    refine rd_nil ?_
    refine pn_again ?_
    have hbd := sl_bound r0
    have hinc : wr (a7 + 1) = a7 + 1 := wr_of (by omega) (by omega)
    erw [hinc]
    exact wC (ih  b1 c0 b3 b7 (by omega) (by omega) (by (have hk := jn_ix hb (i := a7) (by omega) (by omega); simp only [List.length_append]; omega)) (Mem.sub b9 (.cons_cons _ (List.Sublist.refl R_))) hres) rfl

theorem f187x_ok {x0 : List (List UInt8)} {v0 : PV} {R_ : List Ent} {h_ : Heap} (r0 : (tSl (tSl tU8)).R x0 v0) (M_ : Mem h_ (R_)) (hb : ∀ l ∈ x0, l.length ≤ 1048576) (hc : x0.length ≤ 1) : ∃ r b1, FnX Tryz.prog 187 [v0] h_ r b1 ∧ RF187x R_ (env_join_byte x0) r b1 := by
  obtain ⟨res, hres⟩ : ∃ res, env_join_byte x0 = res := ⟨_, rfl⟩
  suffices H : RC Tryz.prog ac187 [] (retPost Tryz.prog [(2, none)] (RF187x R_ res)) (argE 0 [v0]) h_ by
    rw [hres]
    exact fnX text187 (by simp) H
  unfold env_join_byte at hres
  refine sR ?_
  refine rd_op (v := nilS) (ov_move rfl) ?_
  refine nR ?_
  refine rd_op (v := nilS) (ov_move rfl) ?_
  refine nS ?_
  refine rc_seq ?_
  refine sR ?_
  refine mV rfl ?_
  refine rd_op (ov_bi rfl (sl_len r0 Tryz.underlying259 _)) ?_
  refine mI rfl ?_
  refine nS ?_
  refine rc_block ?_
  have b0 := mem_acc (sz := 1) (es := []) M_ 5 (.inl ⟨none, rfl, rfl⟩) (by simp)
  refine wC (env_join_byte_L1x_ok r0 hb hc ?_  aL rfl (.inl rfl) (by first | decide | simp) rfl (by omega) (by simp) (Mem.sub b0 (.cons_cons _ (List.Sublist.refl R_))) hres) rfl
  · intro a6 a0 a1 a4 a5 a3 a2 a8 a9 hres
    refine px_blk ?_
    refine pn_seq ?_
    refine sR ?_
    refine mV rfl ?_
    refine mV rfl ?_
    refine nS ?_
    have a7 : Mem a8 (⟨a1, 5, 1, a0⟩ :: R_) := (Mem.front (k := 0) a9 rfl)
    subst hres
    exact rc_retX (.tmp rfl .nil) ⟨a1, a0, Mem.sub a7 (.cons_cons _ (List.Sublist.refl R_)), a4, a5, a2, a3, rfl⟩

theorem join1_b (l : List Bool) : env_join_bool [l] = l := by
  simp [env_join_bool, env_join_bool_L1, ix]
theorem join1_w (l : List (BitVec 32)) : env_join_uint32 [l] = l := by
  simp [env_join_uint32, env_join_uint32_L1, ix]
theorem join1_y (l : List UInt8) : env_join_byte [l] = l := by
  simp [env_join_byte, env_join_byte_L1, ix]
theorem sl1 {α : Type} {t : TR α} {l : α} {c : PV} (h : t.R l c) : (tSl t).R [l] (.fs true [c]) := sl_fs (t := t) (l := [l]) ⟨h, trivial⟩ (by simp)
theorem jn_b {l : List Bool} {c : PV} (q : (tSl tB).R l c) (hl : l.length ≤ 1048576) : ∃ r k es, FnX Tryz.prog 185 [.fs true [c]] ⟨0, []⟩ r k ∧ Mem k [⟨r, 4, 1, es⟩] ∧ All2 tB.R l es ∧ isL r = true ∧ Wri r es := by
  obtain ⟨r, k, h1, a, es, h2, h3, h4, h5, h6, rfl⟩ := f185x_ok (x0 := [l]) (sl1 q) (Mem.nil ⟨0, []⟩) (by simpa using hl) (by simp)
  rw [join1_b] at h3
  exact ⟨_, k, es, h1, h2, h3, h4, h6⟩
theorem jn_w {l : List (BitVec 32)} {c : PV} (q : (tSl tU32).R l c) (hl : l.length ≤ 1048576) : ∃ r k es, FnX Tryz.prog 186 [.fs true [c]] ⟨0, []⟩ r k ∧ Mem k [⟨r, 89, 1, es⟩] ∧ All2 tU32.R l es ∧ isL r = true ∧ Wri r es := by
  obtain ⟨r, k, h1, a, es, h2, h3, h4, h5, h6, rfl⟩ := f186x_ok (x0 := [l]) (sl1 q) (Mem.nil ⟨0, []⟩) (by simpa using hl) (by simp)
  rw [join1_w] at h3
  exact ⟨_, k, es, h1, h2, h3, h4, h6⟩
theorem jn_y {l : List UInt8} {c : PV} (q : (tSl tU8).R l c) (hl : l.length ≤ 1048576) : ∃ r k es, FnX Tryz.prog 187 [.fs true [c]] ⟨0, []⟩ r k ∧ Mem k [⟨r, 5, 1, es⟩] ∧ All2 tU8.R l es ∧ isL r = true ∧ Wri r es := by
  obtain ⟨r, k, h1, a, es, h2, h3, h4, h5, h6, rfl⟩ := f187x_ok (x0 := [l]) (sl1 q) (Mem.nil ⟨0, []⟩) (by simpa using hl) (by simp)
  rw [join1_y] at h3
  exact ⟨_, k, es, h1, h2, h3, h4, h6⟩
theorem perm_mid {g : Ent} {X I R : List Ent} : (g :: (X ++ (I ++ R))).Perm (X ++ ((I ++ [g]) ++ R)) := by
  have e1 : X ++ ((I ++ [g]) ++ R) = (X ++ I) ++ g :: R := by simp
  have e2 : X ++ (I ++ R) = (X ++ I) ++ R := by simp
  rw [e1, e2]
  exact List.perm_middle.symm
def CQ (x0 : api_Env) (R_ : List Ent) (r : PV) (h : Heap) : Prop := ∃ a b c d eb ef em ep I, r = .agg [a, b, c, d] ∧ OE h x0 a b c d eb ef em ep I R_
theorem cl_L1 {S : List Fr} {Q : Post} {x0 : api_Env} {c1 : PV} (q1 : (tSl (tSl tU32)).R x0.Fields c1) (hE : EB x0) {a c d : PV} {e1 e2 e3 : List PV} {i2 w2 i3 w3 : Nat} {R_ : List Ent} (na : isL a = true) (nc : isL c = true) (nd : isL d = true)
    (K : ∀ {h : Heap} {zv : PV} {ze : List PV} {I : List Ent}, Ns tU32 89 x0.Fields ze I → isL zv = true → Wri zv ze → Mem h (⟨.op i3 w3 0, 46, 4, [.agg [a, zv, c, d]]⟩ :: ⟨zv, 43, 1, ze⟩ :: ⟨d, 5, 1, e3⟩ :: ⟨c, 89, 1, e2⟩ :: ⟨a, 4, 1, e1⟩ :: ⟨.op i2 w2 0, 46, 4, [.agg [nilS, nilS, nilS, nilS]]⟩ :: (I ++ R_)) → PX Tryz.prog 0 S Q [(3, .op i3 w3 0), (2, .op i2 w2 0)] h) :
    ∀ (m : Nat) {i : Int} {zv : PV} {ze : List PV} {I : List Ent} {h : Heap}, m = Int.toNat ((x0.Fields.length : Int) - i) → 0 ≤ i → i ≤ x0.Fields.length → Ns tU32 89 (x0.Fields.take i.toNat) ze I → isL zv = true → Wri zv ze →
      Mem h (⟨.op i3 w3 0, 46, 4, [.agg [a, zv, c, d]]⟩ :: ⟨zv, 43, 1, ze⟩ :: ⟨d, 5, 1, e3⟩ :: ⟨c, 89, 1, e2⟩ :: ⟨a, 4, 1, e1⟩ :: ⟨.op i2 w2 0, 46, 4, [.agg [nilS, nilS, nilS, nilS]]⟩ :: (I ++ R_)) →
      RC Tryz.prog (.loop ac116_L1) S Q [(22, vi i), (21, vi (x0.Fields.length : Int)), (20, c1), (3, .op i3 w3 0), (2, .op i2 w2 0)] h
  | 0, i, zv, ze, I, h, hm, h0, h1, hn, nz, wz, M => by
    refine rc_loop ?_
    refine rc_seq (rc_region (rd_op (ov_bin rfl rfl i_lss) (rd_nil (pn_seq (rc_seq (rc_cond rfl (fun hc => ?_) fun hc => ?_))))))
    · simp only [decide_eq_true_eq] at hc; omega
    · have e : i = x0.Fields.length := by omega
      subst e
      rw [Int.toNat_natCast, List.take_length] at hn
      exact rc_exit (px_seq (px_again (wP (K hn nz wz M) rfl)))
  | m + 1, i, zv, ze, I, h, hm, h0, h1, hn, nz, wz, M => by
    have hlt : i < (x0.Fields.length : Int) := by omega
    refine rc_loop ?_
    refine rc_seq (rc_region (rd_op (ov_bin rfl rfl i_lss) (rd_nil (pn_seq (rc_seq (rc_cond rfl (fun hc => ?_) fun hc => ?_))))))
    · refine rc_skip (pn_seq (rc_seq (rc_block ?_)))
      obtain ⟨g0, e0, q0⟩ := sl_idx (i := i) q1 h0 hlt
      refine rc_seq (rc_region (rd_op (ov_iaddr rfl rfl e0) (rd_op (ov_load rfl (TR.cnt _ q0) (TR.agg _ q0)) (rd_op (ov_move rfl) (rd_nil (pn_seq (rc_regionM ?_)))))))
      refine rm_q (ov_faddrO rfl) (rm_q (ov_loadf (k := 0) M rfl rfl (mk1 (mem_one (k := 1) M rfl nz).2)) (rm_q (ov_move rfl) (rm_q (ov_bslice rfl (all_cons (TR.cnt _ q0) all_nil)) ?_)))
      obtain ⟨r1, k1, es, X1, N1, A1, L1, W1⟩ := jn_w q0 (jn_ix hE.i h0 hlt)
      refine rm_graft X1 N1 L1 A1.clo W1 M rfl rfl (clL_cons (by simp [closed, closedL, TR.clo _ q0]) clL_nil) (fun g a0 ng wg M1 => ?_)
      refine rm_q (ov_bslice rfl (all_cons (mem_cnt1 (k := 0) M1 rfl ng) all_nil)) ?_
      have hzl := hn.len
      refine rm_appW (k := 2) (es := ze) (news := [g]) M1 rfl rfl rfl nz wz (src_sl (.inr ⟨true, rfl⟩) (fun y hy => by rw [List.mem_singleton.1 hy]; exact mem_cnt1 (k := 0) M1 rfl ng)) (by have hl := hn.len.1; have hf := hE.f; simp only [List.length_take] at hl; exact fits_of (by simp only [List.length_cons, List.length_nil]; omega) (by simp only [List.length_cons, List.length_nil]; omega)) (fun z' a1 nz' wz' M2 => ?_)
      refine rm_q (ov_faddrO rfl) ?_
      refine rm_storeF (k := 1) (v := z') M2 rfl rfl rfl (mem_one (k := 2) M2 rfl nz').1 rfl (by simp) (fun a2 M3 => ?_)
      refine rm_nil (pn_blk (pn_seq ?_))
      refine rc_region (rd_op (ov_bin rfl rfl i_add) (rd_op (ov_move rfl) (rd_nil (pn_again ?_))))
      have M4 := Mem.perm (L := ⟨g, 89, 1, es⟩ :: ([⟨.op i3 w3 0, 46, 4, [.agg [a, z', c, d]]⟩, ⟨z', 43, 1, ze ++ [g]⟩, ⟨d, 5, 1, e3⟩, ⟨c, 89, 1, e2⟩, ⟨a, 4, 1, e1⟩, ⟨.op i2 w2 0, 46, 4, [.agg [nilS, nilS, nilS, nilS]]⟩] ++ (I ++ R_))) M3 perm_mid
      have hinc : wr (i + 1) = i + 1 := wr_of (by omega) (by have := hE.f; omega)
      refine rc_weak ?_ (cl_L1 q1 hE na nc nd K m (i := i + 1) (zv := z') (ze := ze ++ [g]) (I := I ++ [(⟨g, 89, 1, es⟩ : Ent)]) (by omega) (by omega) (by omega) ?_ nz' wz' M4)
      · exact sub_cons (by show some (vi (wr (i + 1))) = _; rw [hinc]) (sB rfl)
      · have e : x0.Fields.take (i + 1).toNat = x0.Fields.take i.toNat ++ [ix x0.Fields i] := by
          rw [ix_lt h0 hlt, show (i + 1).toNat = i.toNat + 1 by omega, List.take_succ_eq_append_getElem]
        rw [e]
        exact hn.app1 ⟨rfl, rfl, rfl, A1, ng, by have := jn_ix hE.i h0 hlt; omega, wg⟩
    · simp only [decide_eq_false_iff_not] at hc; omega
theorem f116o_ok {x0 : api_Env} {v0 : PV} {R_ : List Ent} {h_ : Heap} (r0 : api_Env.t.R x0 v0) (hE : EB x0) (M_ : Mem h_ R_) : ∃ r k, FnX Tryz.prog 116 [v0] h_ r k ∧ CQ x0 R_ r k := by
  refine fnX text116 (by simp) ?_
  obtain ⟨c0, c1, c2, c3, rfl, q0, q1, q2, q3⟩ := r0
  refine rc_seq (rc_region ?_)
  refine rd_op (ov_box rfl rfl) ?_
  refine rd_allocO (x := .agg [nilS, nilS, nilS, nilS]) M_ rfl rfl (fun i2 w2 h2 M2 => ?_)
  refine rd_nil (pn_seq ?_)
  refine rc_seq (rc_regionM ?_)
  refine rm_q (ov_faddr rfl (mk1 (TR.agg _ q0))) (rm_q (ov_load rfl (TR.cnt _ q0) (TR.agg _ q0)) (rm_q (ov_bslice rfl (all_cons (TR.cnt _ q0) all_nil)) ?_))
  obtain ⟨r1, k1, e1, X1, N1, A1, L1, W1⟩ := jn_b q0 hE.v
  refine rm_graft X1 N1 L1 A1.clo W1 M2 rfl rfl (clL_cons (by simp [closed, closedL, TR.clo _ q0]) clL_nil) (fun a h3 na wa M3 => ?_)
  refine rm_q (ov_faddr rfl (mk1 (TR.agg _ q2))) (rm_q (ov_load rfl (TR.cnt _ q2) (TR.agg _ q2)) (rm_q (ov_bslice rfl (all_cons (TR.cnt _ q2) all_nil)) ?_))
  obtain ⟨r2, k2, e2, X2, N2, A2, L2, W2⟩ := jn_w q2 hE.m
  refine rm_graft X2 N2 L2 A2.clo W2 M3 rfl rfl (clL_cons (by simp [closed, closedL, TR.clo _ q2]) clL_nil) (fun c h4 nc wc M4 => ?_)
  refine rm_q (ov_faddr rfl (mk1 (TR.agg _ q3))) (rm_q (ov_load rfl (TR.cnt _ q3) (TR.agg _ q3)) (rm_q (ov_bslice rfl (all_cons (TR.cnt _ q3) all_nil)) ?_))
  obtain ⟨r3, k3, e3, X3, N3, A3, L3, W3⟩ := jn_y q3 hE.p
  refine rm_graft X3 N3 L3 A3.clo W3 M4 rfl rfl (clL_cons (by simp [closed, closedL, TR.clo _ q3]) clL_nil) (fun d h5 nd wd M5 => ?_)
  refine rm_q (v := .agg [a, nilS, c, d]) (ov_build (cs := [a, nilS, c, d]) rfl (by simp only [buildV, (mem_one (k := 2) M5 rfl na).1, (mem_one (k := 1) M5 rfl nc).1, (mem_one (k := 0) M5 rfl nd).1]; rfl)) ?_
  refine rm_allocO (x := .agg [nilS, nilS, nilS, nilS]) M5 rfl rfl (fun i3 w3 h6 M6 => ?_)
  refine rm_storeO (k := 0) (v := .agg [a, nilS, c, d]) M6 rfl rfl rfl rfl (fun h7 M7 => ?_)
  replace M7 : Mem h7 (⟨.op i3 w3 0, 46, 4, [.agg [a, nilS, c, d]]⟩ :: ⟨d, 5, 1, e3⟩ :: ⟨c, 89, 1, e2⟩ :: ⟨a, 4, 1, e1⟩ :: ⟨.op i2 w2 0, 46, 4, [.agg [nilS, nilS, nilS, nilS]]⟩ :: R_) := M7
  refine rm_nil ?_
  refine pn_seq (rc_seq (rc_seq (rc_region ?_)))
  refine rd_op (ov_faddr rfl (mk1 (TR.agg _ q1))) (rd_op (ov_load rfl (TR.cnt _ q1) (TR.agg _ q1)) (rd_op (ov_bi rfl (sl_len q1 Tryz.underlying42 _)) (rd_op (ov_move rfl) ?_)))
  refine rd_nil (pn_seq (rc_block ?_))
  have M8 := mem_acc (sz := 1) (es := []) M7 43 (.inl ⟨none, rfl, rfl⟩) (by simp)
  refine wC (cl_L1 (x0 := x0) q1 hE na nc nd ?_ x0.Fields.length (i := 0) (zv := nilS) (ze := []) (I := []) (h := h7) (by omega) (by omega) (by omega) trivial rfl (.inl rfl) (Mem.front (k := 1) M8 rfl)) rfl
  · intro h zv ze I hn nz wz M
    refine px_blk (pn_seq ?_)
    refine rc_seq (rc_region ?_)
    refine rd_op (ov_load0 (k := 0) M rfl rfl rfl) ?_
    refine rd_storeO (k := 5) (v := .agg [a, zv, c, d]) M rfl rfl rfl rfl (fun h' M' => ?_)
    refine rd_nil (pn_seq ?_)
    refine rc_retX (.cell rfl (load_whole (k := 5) M' rfl rfl) .nil) ⟨a, zv, c, d, _, _, _, _, I, rfl, ?_, A1, hn, A2, A3, na, nz, nc, nd, wa, wz, wc⟩
    exact Mem.front (k := 3) (Mem.front (k := 2) (Mem.front (k := 2) (Mem.front (k := 1) (Mem.sub M' (.cons _ (.cons_cons _ (.cons_cons _ (.cons_cons _ (.cons_cons _ (.cons _ (List.Sublist.refl _)))))))) rfl) rfl) rfl) rfl
theorem f116_ok {x0 : api_Env} {v0 : PV} (r0 : api_Env.t.R x0 v0) (hE : EB x0) : ∃ r, FnR Tryz.prog 116 [v0] r ∧ api_Env.t.R (env_Clone x0) r := by
  obtain ⟨r, k, X, a, b, c, d, eb, ef, em, ep, I, rfl, H⟩ := f116o_ok r0 hE (Mem.nil ⟨0, []⟩)
  obtain ⟨d', hd, hr⟩ := H.deep hE
  exact ⟨d', FnR.of_X X hd, hr⟩

def RF233 (res : api_Header) (r : PV) : Prop := api_Header.t.R res r
theorem f233_ok {x0 : List api_Header} {x1 : Int} {v0 : PV} (r0 : (tSl api_Header.t).R x0 v0) : ∃ r, FnR Tryz.prog 233 [v0, vi x1] r ∧ api_Header.t.R (env_at_api_Header x0 x1) r := by
  refine fnT (R := RF233) text233 rfl fun res hres => ?_
  unfold env_at_api_Header at hres
  refine sR ?_
  refine rd_allocO (x := .agg [vs [], nilS]) (Mem.nil ⟨0, []⟩) rfl rfl (fun a4 a6 b2 a7 => ?_)
  refine nR ?_
  refine rd_op (ov_allocv (x := .agg [vs [], nilS]) rfl rfl) ?_
  refine nS ?_
  refine rc_seq ?_
  refine sR ?_
  refine mV rfl ?_
  refine bN i_lss rfl rfl ?_
  refine mV rfl ?_
  refine rd_cutn 5 (d := 13) (v := vb ((decide (x1 < 0)) || (decide ((x0.length : Int) ≤ x1)))) ?_ ?_
  · intro S Q r
    cases a8 : (decide (x1 < 0))
    · intro k
      have a1 := a8
      try simp only [qa, qaD] at a1
      refine rd_yes rfl rfl (ov_move rfl) ?_
      refine rd_yes rfl rfl (ov_move rfl) ?_
      refine rd_yes rfl rfl (ov_bi rfl (sl_len r0 Tryz.underlying22 _)) ?_
      refine rd_yes rfl rfl (ov_bin rfl rfl i_geq) ?_
      exact gK rfl rfl rfl rfl rfl k
    · exact gN 4 rfl rfl rfl rfl rfl rfl
  refine nS ?_
  refine rc_br hres rfl ?_ ?_ <;> clear hres <;> intro c hres <;> try simp only [qa, qaD] at c
  · refine sR ?_
    refine lR rfl rfl rfl ?_
    refine rd_storeO (k := 0) (v := .agg [vs [], nilS]) a7 rfl rfl rfl rfl (fun b0 a2 => ?_)
    replace a2 : Mem b0 [⟨.op a4 a6 0, 92, 2, [.agg [vs [], nilS]]⟩] := a2
    refine nS ?_
    subst hres
    exact rc_retV (.cell rfl (load_whole (k := 0) a2 rfl rfl) .nil) (deep_closed (TR.clo api_Header.t (show api_Header.t.R ({ Name := ([] : List UInt8), Fields := ([] : List api_Field) } : api_Header) (.agg [vs [], nilS]) from ⟨nilS, rfl, sl_nil⟩))) (show api_Header.t.R ({ Name := ([] : List UInt8), Fields := ([] : List api_Field) } : api_Header) (.agg [vs [], nilS]) from ⟨nilS, rfl, sl_nil⟩)
  · refine rc_skip ?_
    refine pn_seq ?_
    refine sR ?_
    refine mV rfl ?_
    refine mV rfl ?_
    obtain ⟨a5, b1, a0⟩ := sl_idx (i := x1) r0 (by omega) (by omega)
    refine rd_op (ov_iaddr rfl rfl b1) ?_
    refine lD a0 rfl rfl rfl ?_
    refine rd_storeO (k := 0) (v := a5) a7 rfl rfl rfl (TR.cnt api_Header.t a0) (fun a9 a3 => ?_)
    replace a3 : Mem a9 [⟨.op a4 a6 0, 92, 2, [a5]⟩] := a3
    refine nS ?_
    subst hres
    exact rc_retV (.cell rfl (load_whole (k := 0) a3 rfl (TR.agg api_Header.t a0)) .nil) (deep_closed (TR.clo api_Header.t a0)) a0

def RF203 (res : (List api_Field)) (r : PV) : Prop := (tSl api_Field.t).R res r
theorem f203_ok {x0 : api_Program} {x1 : Int} {v0 : PV} (r0 : api_Program.t.R x0 v0) : ∃ r, FnR Tryz.prog 203 [v0, vi x1] r ∧ (tSl api_Field.t).R (env_fields x0 x1) r := by
  refine fnT (R := RF203) text203 rfl fun res hres => ?_
  unfold env_fields at hres
  refine sR ?_
  refine rd_op (ov_box rfl (TR.cnt api_Program.t r0)) ?_
  refine rd_op (v := nilS) (ov_move rfl) ?_
  refine nS ?_
  refine rc_seq ?_
  refine sR ?_
  refine mV rfl ?_
  refine bN (i_eql (b := -1)) rfl rfl ?_
  refine nS ?_
  refine rc_br hres rfl ?_ ?_ <;> clear hres <;> intro c hres <;> try simp only [qa, qaD] at c
  · refine sR ?_
    obtain ⟨b2, a6, a0⟩ := api_Program.g_Metadata r0
    refine fA rfl a6 ?_
    refine lD a0 rfl rfl rfl ?_
    refine mV rfl ?_
    refine nS ?_
    exact rR hres rfl (TR.clo (tSl api_Field.t) a0) a0
  · refine rc_skip ?_
    refine pn_seq ?_
    refine sR ?_
    obtain ⟨b3, a5, a1⟩ := api_Program.g_Headers r0
    refine fA rfl a5 ?_
    refine lD a1 rfl rfl rfl ?_
    refine mV rfl ?_
    obtain ⟨a9, a3, hres⟩ := let_ex hres
    obtain ⟨b0, a8, a4⟩ := f233_ok (x1 := x1) a1 
    rw [a3] at a4
    refine cL a8 rfl rfl (clL_cons (TR.clo (tSl api_Header.t) a1) (clL_cons rfl clL_nil)) ?_
    obtain ⟨b1, a7, a2⟩ := api_Header.g_Fields a4
    refine rd_op (ov_field rfl a7) ?_
    refine mV rfl ?_
    refine nS ?_
    exact rR hres rfl (TR.clo (tSl api_Field.t) a2) a2

def RF202 (res : api_Field) (r : PV) : Prop := api_Field.t.R res r
theorem f202_ok {x0 : List api_Field} {x1 : Int} {v0 : PV} (r0 : (tSl api_Field.t).R x0 v0) : ∃ r, FnR Tryz.prog 202 [v0, vi x1] r ∧ api_Field.t.R (env_at_api_Field x0 x1) r := by
  refine fnT (R := RF202) text202 rfl fun res hres => ?_
  unfold env_at_api_Field at hres
  refine sR ?_
  refine rd_allocO (x := .agg [vs [], vi 0]) (Mem.nil ⟨0, []⟩) rfl rfl (fun a4 a6 b2 a7 => ?_)
  refine nR ?_
  refine rd_op (ov_allocv (x := .agg [vs [], vi 0]) rfl rfl) ?_
  refine nS ?_
  refine rc_seq ?_
  refine sR ?_
  refine mV rfl ?_
  refine bN i_lss rfl rfl ?_
  refine mV rfl ?_
  refine rd_cutn 5 (d := 13) (v := vb ((decide (x1 < 0)) || (decide ((x0.length : Int) ≤ x1)))) ?_ ?_
  · intro S Q r
    cases a8 : (decide (x1 < 0))
    · intro k
      have a1 := a8
      try simp only [qa, qaD] at a1
      refine rd_yes rfl rfl (ov_move rfl) ?_
      refine rd_yes rfl rfl (ov_move rfl) ?_
      refine rd_yes rfl rfl (ov_bi rfl (sl_len r0 Tryz.underlying23 _)) ?_
      refine rd_yes rfl rfl (ov_bin rfl rfl i_geq) ?_
      exact gK rfl rfl rfl rfl rfl k
    · exact gN 4 rfl rfl rfl rfl rfl rfl
  refine nS ?_
  refine rc_br hres rfl ?_ ?_ <;> clear hres <;> intro c hres <;> try simp only [qa, qaD] at c
  · refine sR ?_
    refine lR rfl rfl rfl ?_
    refine rd_storeO (k := 0) (v := .agg [vs [], vi 0]) a7 rfl rfl rfl rfl (fun b0 a2 => ?_)
    replace a2 : Mem b0 [⟨.op a4 a6 0, 166, 2, [.agg [vs [], vi 0]]⟩] := a2
    refine nS ?_
    subst hres
    exact rc_retV (.cell rfl (load_whole (k := 0) a2 rfl rfl) .nil) (deep_closed (TR.clo api_Field.t (show api_Field.t.R ({ Name := ([] : List UInt8), Width := 0 } : api_Field) (.agg [vs [], vi 0]) from rfl))) (show api_Field.t.R ({ Name := ([] : List UInt8), Width := 0 } : api_Field) (.agg [vs [], vi 0]) from rfl)
  · refine rc_skip ?_
    refine pn_seq ?_
    refine sR ?_
    refine mV rfl ?_
    refine mV rfl ?_
    obtain ⟨a5, b1, a0⟩ := sl_idx (i := x1) r0 (by omega) (by omega)
    refine rd_op (ov_iaddr rfl rfl b1) ?_
    refine lD a0 rfl rfl rfl ?_
    refine rd_storeO (k := 0) (v := a5) a7 rfl rfl rfl (TR.cnt api_Field.t a0) (fun a9 a3 => ?_)
    replace a3 : Mem a9 [⟨.op a4 a6 0, 166, 2, [a5]⟩] := a3
    refine nS ?_
    subst hres
    exact rc_retV (.cell rfl (load_whole (k := 0) a3 rfl (TR.agg api_Field.t a0)) .nil) (deep_closed (TR.clo api_Field.t a0)) a0

def RF136 (res : Int) (r : PV) : Prop := r = vi res
theorem f136_ok {x0 : api_Program} {x1 : api_FieldRef} {v0 v1 : PV} (r0 : api_Program.t.R x0 v0) (r1 : api_FieldRef.t.R x1 v1) : FnR Tryz.prog 136 [v0, v1] (vi (env_Width x0 x1)) := by
  refine fnS (R := RF136) text136 (fun _ h => h) rfl fun res hres => ?_
  unfold env_Width at hres
  refine sR ?_
  refine rd_op (ov_box rfl (TR.cnt api_Program.t r0)) ?_
  refine rd_op (ov_box rfl (TR.cnt api_FieldRef.t r1)) ?_
  refine mI rfl ?_
  refine nR ?_
  refine lD r0 rfl rfl rfl ?_
  refine fL rfl (api_FieldRef.g_Header r1) rfl rfl ?_
  obtain ⟨b2, a1, hres⟩ := let_ex hres
  obtain ⟨b1, a7, a0⟩ := f203_ok (x1 := x1.Header) r0 
  rw [a1] at a0
  refine cL a7 rfl rfl (clL_cons (TR.clo api_Program.t r0) (clL_cons rfl clL_nil)) ?_
  refine fL rfl (api_FieldRef.g_Field r1) rfl rfl ?_
  obtain ⟨a9, a2, hres⟩ := let_ex hres
  obtain ⟨b0, a6, a3⟩ := f202_ok (x1 := x1.Field) a0 
  rw [a2] at a3
  refine cL a6 rfl rfl (clL_cons (TR.clo (tSl api_Field.t) a0) (clL_cons rfl clL_nil)) ?_
  refine rd_op (ov_field rfl (api_Field.g_Width a3)) ?_
  refine mV rfl ?_
  refine nS ?_
  refine rc_seq ?_
  refine sR ?_
  refine mV rfl ?_
  obtain ⟨a8, a5, hres⟩ := let_ex hres
  have a4 := f182_ok (x0 := a9.Width)  
  rw [a5] at a4
  refine cL a4 rfl rfl (clL_cons rfl clL_nil) ?_
  refine rd_op (ov_bin (a := vu32 a8) (b := vu32 0#32) rfl rfl w_eql) ?_
  refine nS ?_
  refine rc_br hres rfl ?_ ?_ <;> clear hres <;> intro c hres <;> try simp only [qa, qaD] at c
  · refine sR ?_
    refine mI rfl ?_
    refine nS ?_
    exact rR hres rfl rfl rfl
  · refine rc_skip ?_
    refine pn_seq ?_
    refine sR ?_
    refine mV rfl ?_
    refine mV rfl ?_
    refine nS ?_
    exact rR hres rfl rfl rfl

def RF270 (res : Bool) (r : PV) : Prop := r = vb res
theorem f270_ok {x0 : List (BitVec 32)} {x1 : Int} {v0 : PV} (r0 : (tSl tU32).R x0 v0) : FnR Tryz.prog 270 [v0, vi x1] (vb (env_in_uint32 x0 x1)) := by
  refine fnS (R := RF270) text270 (fun _ h => h) rfl fun res hres => ?_
  unfold env_in_uint32 at hres
  refine sR ?_
  refine mB rfl ?_
  refine nR ?_
  refine mV rfl ?_
  refine bN i_geq rfl rfl ?_
  refine mV rfl ?_
  refine rd_cutn 5 (d := 12) (v := vb ((decide (0 ≤ x1)) && (decide (x1 < (x0.length : Int))))) ?_ ?_
  · intro S Q r
    cases a1 : (decide (0 ≤ x1))
    · exact gN 4 rfl rfl rfl rfl rfl rfl
    · intro k
      have a0 := a1
      try simp only [qa, qaD] at a0
      refine rd_yes rfl rfl (ov_move rfl) ?_
      refine rd_yes rfl rfl (ov_move rfl) ?_
      refine rd_yes rfl rfl (ov_bi rfl (sl_len r0 Tryz.underlying43 _)) ?_
      refine rd_yes rfl rfl (ov_bin rfl rfl i_lss) ?_
      exact gK rfl rfl rfl rfl rfl k
  refine mV rfl ?_
  refine nS ?_
  exact rR hres rfl rfl rfl

def RF271 (res : (List (BitVec 32))) (r : PV) : Prop := (tSl tU32).R res r
theorem f271_ok {x0 : List (List (BitVec 32))} {x1 : Int} {v0 : PV} (r0 : (tSl (tSl tU32)).R x0 v0) : ∃ r, FnR Tryz.prog 271 [v0, vi x1] r ∧ (tSl tU32).R (env_at__uint32_ x0 x1) r := by
  refine fnT (R := RF271) text271 rfl fun res hres => ?_
  unfold env_at__uint32_ at hres
  refine sR ?_
  refine rd_op (v := nilS) (ov_move rfl) ?_
  refine nR ?_
  refine rd_op (v := nilS) (ov_move rfl) ?_
  refine nS ?_
  refine rc_seq ?_
  refine sR ?_
  refine mV rfl ?_
  refine bN i_lss rfl rfl ?_
  refine mV rfl ?_
  refine rd_cutn 5 (d := 13) (v := vb ((decide (x1 < 0)) || (decide ((x0.length : Int) ≤ x1)))) ?_ ?_
  · intro S Q r
    cases a2 : (decide (x1 < 0))
    · intro k
      have a1 := a2
      try simp only [qa, qaD] at a1
      refine rd_yes rfl rfl (ov_move rfl) ?_
      refine rd_yes rfl rfl (ov_move rfl) ?_
      refine rd_yes rfl rfl (ov_bi rfl (sl_len r0 Tryz.underlying42 _)) ?_
      refine rd_yes rfl rfl (ov_bin rfl rfl i_geq) ?_
      exact gK rfl rfl rfl rfl rfl k
    · exact gN 4 rfl rfl rfl rfl rfl rfl
  refine nS ?_
  refine rc_br hres rfl ?_ ?_ <;> clear hres <;> intro c hres <;> try simp only [qa, qaD] at c
  · refine sR ?_
    refine mV rfl ?_
    refine mV rfl ?_
    refine nS ?_
    exact rR hres rfl (TR.clo (tSl tU32) sl_nil) sl_nil
  · refine rc_skip ?_
    refine pn_seq ?_
    refine sR ?_
    refine mV rfl ?_
    refine mV rfl ?_
    obtain ⟨a4, a3, a0⟩ := sl_idx (i := x1) r0 (by omega) (by omega)
    refine rd_op (ov_iaddr rfl rfl a3) ?_
    refine lD a0 rfl rfl rfl ?_
    refine mV rfl ?_
    refine nS ?_
    exact rR hres rfl (TR.clo (tSl tU32) a0) a0

def RF272 (res : Bool) (r : PV) : Prop := r = vb res
theorem f272_ok {x0 : List Bool} {x1 : Int} {v0 : PV} (r0 : (tSl tB).R x0 v0) : FnR Tryz.prog 272 [v0, vi x1] (vb (env_at_bool x0 x1)) := by
  refine fnS (R := RF272) text272 (fun _ h => h) rfl fun res hres => ?_
  unfold env_at_bool at hres
  refine sR ?_
  refine mB rfl ?_
  refine nR ?_
  refine mB rfl ?_
  refine nS ?_
  refine rc_seq ?_
  refine sR ?_
  refine mV rfl ?_
  refine bN i_lss rfl rfl ?_
  refine mV rfl ?_
  refine rd_cutn 5 (d := 13) (v := vb ((decide (x1 < 0)) || (decide ((x0.length : Int) ≤ x1)))) ?_ ?_
  · intro S Q r
    cases a1 : (decide (x1 < 0))
    · intro k
      have a0 := a1
      try simp only [qa, qaD] at a0
      refine rd_yes rfl rfl (ov_move rfl) ?_
      refine rd_yes rfl rfl (ov_move rfl) ?_
      refine rd_yes rfl rfl (ov_bi rfl (sl_len r0 Tryz.underlying41 _)) ?_
      refine rd_yes rfl rfl (ov_bin rfl rfl i_geq) ?_
      exact gK rfl rfl rfl rfl rfl k
    · exact gN 4 rfl rfl rfl rfl rfl rfl
  refine nS ?_
  refine rc_br hres rfl ?_ ?_ <;> clear hres <;> intro c hres <;> try simp only [qa, qaD] at c
  · refine sR ?_
    refine mV rfl ?_
    refine mV rfl ?_
    refine nS ?_
    exact rR hres rfl rfl rfl
  · refine rc_skip ?_
    refine pn_seq ?_
    refine sR ?_
    refine mV rfl ?_
    refine mV rfl ?_
    refine rd_op (ov_iaddr rfl rfl (slB r0 (by omega) (by omega))) ?_
    refine lR rfl rfl rfl ?_
    refine mV rfl ?_
    refine nS ?_
    exact rR hres rfl rfl rfl

def RF227 (res : (List (BitVec 32)) × Bool) (r : PV) : Prop := ∃ c0, r = .tup [c0, vb res.2] ∧ (tSl tU32).R res.1 c0
theorem f227_ok {x0 : api_Env} {x1 : api_FieldRef} {v0 v1 : PV} (r0 : api_Env.t.R x0 v0) (r1 : api_FieldRef.t.R x1 v1) : ∃ c0, FnR Tryz.prog 227 [v0, v1] (.tup [c0, vb ((env_element x0 x1).2)]) ∧ (tSl tU32).R (env_element x0 x1).1 c0 := by
  obtain ⟨res, hres⟩ : ∃ res, env_element x0 x1 = res := ⟨_, rfl⟩
  suffices H : RC Tryz.prog ac227 [] (QR Tryz.prog [(4, none), (5, none)] (RF227 res)) (argE 0 [v0, v1]) ⟨0, []⟩ by
    rw [hres]
    obtain ⟨r, h1, c0, rfl, c2⟩ := fnE text227 (by simp) H
    exact ⟨c0, h1, c2⟩
  unfold env_element at hres
  refine sR ?_
  refine rd_op (ov_box rfl (TR.cnt api_Env.t r0)) ?_
  refine rd_op (ov_box rfl (TR.cnt api_FieldRef.t r1)) ?_
  refine rd_op (v := nilS) (ov_move rfl) ?_
  refine mB rfl ?_
  refine nS ?_
  refine rc_seq ?_
  refine sR ?_
  refine lD r1 rfl rfl rfl ?_
  refine fL rfl (api_FieldRef.g_Field r1) rfl rfl ?_
  refine rd_op (v := .agg [vi (-1), vi x1.Field]) (ov_build (cs := [vi (-1), vi x1.Field]) rfl rfl) ?_
  refine bN (api_FieldRef.eql_87 r1 (show api_FieldRef.t.R ({ Header := (-1), Field := x1.Field } : api_FieldRef) (.agg [vi (-1), vi x1.Field]) from rfl)) rfl rfl ?_
  refine nS ?_
  refine rc_br hres rfl ?_ ?_ <;> clear hres <;> intro c hres <;> try simp only [qa, qaD] at c
  · refine sR ?_
    refine gL (api_Env.g_Meta r0) rfl rfl rfl fun b7 a5 => ?_
    refine gL (api_Env.g_Meta r0) rfl rfl rfl fun c3 a6 => ?_
    refine fL rfl (api_FieldRef.g_Field r1) rfl rfl ?_
    obtain ⟨b9, b0, hres⟩ := let_ex hres
    have b2 := f270_ok (x1 := x1.Field) a6 
    rw [b0] at b2
    refine cL b2 rfl rfl (clL_cons (TR.clo (tSl tU32) a6) (clL_cons rfl clL_nil)) ?_
    refine mV rfl ?_
    refine mV rfl ?_
    refine nS ?_
    subst hres
    exact rc_retV (.tmp rfl (.tmp rfl .nil)) (deep_closed (show closed (.tup _) = true from (clL_cons (TR.clo (tSl tU32) a5) (clL_cons rfl clL_nil)))) ⟨b7, rfl, a5⟩
  · refine rc_skip ?_
    refine pn_seq ?_
    refine sR ?_
    refine gL (api_Env.g_Fields r0) rfl rfl rfl fun c1 a9 => ?_
    refine fL rfl (api_FieldRef.g_Header r1) rfl rfl ?_
    obtain ⟨b6, a2, hres⟩ := let_ex hres
    obtain ⟨b4, b5, a0⟩ := f271_ok (x1 := x1.Header) a9 
    rw [a2] at a0
    refine cL b5 rfl rfl (clL_cons (TR.clo (tSl (tSl tU32)) a9) (clL_cons rfl clL_nil)) ?_
    refine mV rfl ?_
    refine nR ?_
    refine mV rfl ?_
    refine gL (api_Env.g_Valid r0) rfl rfl rfl fun b8 a7 => ?_
    refine fL rfl (api_FieldRef.g_Header r1) rfl rfl ?_
    obtain ⟨b1, a3, hres⟩ := let_ex hres
    have a8 := f272_ok (x1 := x1.Header) a7 
    rw [a3] at a8
    refine cL a8 rfl rfl (clL_cons (TR.clo (tSl tB) a7) (clL_cons rfl clL_nil)) ?_
    refine mV rfl ?_
    refine rd_cutn 5 (d := 35) (v := vb (b1 && (env_in_uint32 b6 x1.Field))) ?_ ?_
    · intro S Q r
      cases a4 : b1
      · exact gN 4 rfl rfl rfl rfl rfl rfl
      · intro k
        have a1 := a4
        try simp only [qa, qaD] at a1
        refine rd_yes rfl rfl (ov_move rfl) ?_
        refine rd_yes rfl rfl (ov_faddr rfl (api_FieldRef.g_Field r1)) ?_
        refine rd_yes rfl rfl (ov_load rfl rfl rfl) ?_
        have b3 := f270_ok (x1 := x1.Field) a0 
        refine rd_ycall rfl rfl (cv_fn rfl rfl (clL_cons (TR.clo (tSl tU32) a0) (clL_cons rfl clL_nil)) b3) ?_
        exact gK rfl rfl rfl rfl rfl k
    refine mV rfl ?_
    refine mV rfl ?_
    refine nS ?_
    subst hres
    exact rc_retV (.tmp rfl (.tmp rfl .nil)) (deep_closed (show closed (.tup _) = true from (clL_cons (TR.clo (tSl tU32) a0) (clL_cons rfl clL_nil)))) ⟨b4, rfl, a0⟩

section
variable {h : Heap} {e : api_Env} {a b c d : PV} {eb ef em ep : List PV} {I R : List Ent}
theorem f271o {L : List Ent} {k : Nat} (M : Mem h L) (hk : L[k]? = some ⟨b, 43, 1, ef⟩) (nb : isL b = true) (wb : Wri b ef) (ha : ∀ x ∈ ef, x.isAgg = false) {i : Int} :
    FnX Tryz.prog 271 [b, vi i] h (if 0 ≤ i ∧ i < (ef.length : Int) then ef.getD i.toNat nilS else nilS) h := by
  obtain ⟨r, h', X, rfl, rfl⟩ := fnX (P := Tryz.prog) (h := h) text271 (args := [b, vi i]) (Φ := fun r k => r = (if 0 ≤ i ∧ i < (ef.length : Int) then ef.getD i.toNat nilS else nilS) ∧ k = h) (by simp) (by
    refine sR (rd_op (v := nilS) (ov_move rfl) (nR (rd_op (v := nilS) (ov_move rfl) (nS ?_))))
    refine rc_seq (sR (mV rfl (bN i_lss rfl rfl (mV rfl ?_))))
    refine rd_cutn 5 (d := 13) (v := vb ((decide (i < 0)) || (decide ((ef.length : Int) ≤ i)))) ?_ ?_
    · intro S Q r
      cases a0 : (decide (i < 0))
      · intro k
        refine rd_yes rfl rfl (ov_move rfl) ?_
        refine rd_yes rfl rfl (ov_move rfl) ?_
        refine rd_yes rfl rfl (ov_bi rfl (ent_len (M.at hk) Tryz.underlying42 nb _)) ?_
        refine rd_yes rfl rfl (ov_bin rfl rfl i_geq) ?_
        exact gK rfl rfl rfl rfl rfl k
      · exact gN 4 rfl rfl rfl rfl rfl rfl
    refine nS (rc_cond rfl (fun hc => ?_) fun hc => ?_)
    · simp only [Bool.or_eq_true, decide_eq_true_eq] at hc
      refine sR (mV rfl (mV rfl (nS ?_)))
      exact rc_retX (.tmp rfl .nil) ⟨by rw [if_neg (by omega)]; rfl, rfl⟩
    · simp only [Bool.or_eq_false_iff, decide_eq_false_iff_not] at hc
      refine rc_skip (pn_seq (sR (mV rfl (mV rfl ?_))))
      have hlt : i.toNat < ef.length := by omega
      rcases wb with rfl | ⟨id, ver, n, rfl⟩
      · simp at hlt
      have hn := mem_osn M hk
      refine rd_op (ov_iaddr rfl rfl (n_idx 1 (i := i) (by omega) (by omega))) ?_
      refine rd_op (ov_elem M rfl hk (List.getElem?_eq_getElem hlt) (ha _ (List.getElem_mem hlt))) (mV rfl (nS ?_))
      exact rc_retX (.tmp rfl .nil) ⟨by rw [if_pos (by omega), List.getD_eq_getElem?_getD, List.getElem?_eq_getElem hlt]; rfl, rfl⟩)
  exact X
theorem OE.aggs (H : OE h e a b c d eb ef em ep I R) : ∀ x ∈ ef, x.isAgg = false := by
  intro x hx
  obtain ⟨k, hk, rfl⟩ := List.getElem_of_mem hx
  have hl := H.f.len.1
  obtain ⟨v, es, g1, g2, g3, g4, g5, g6, g7⟩ := H.inner (i := (k : Int)) (by omega) (by omega)
  rw [Int.toNat_natCast, List.getElem?_eq_getElem hk, Option.some.injEq] at g1
  rw [g1]
  exact (mem_one H.M g3 g5).2
theorem OE.elv_ok (H : OE h e a b c d eb ef em ep I R) (r : api_FieldRef) (hr : ¬r.Header = -1) : ∃ d', Deep Tryz.prog h (elv c ef r) d' ∧ (tSl tU32).R (env_at__uint32_ e.Fields r.Header) d' := by
  unfold elv env_at__uint32_
  rw [if_neg hr]
  have hl := H.f.len.1
  by_cases hi : 0 ≤ r.Header ∧ r.Header < (ef.length : Int)
  · rw [if_pos hi, if_neg (by simp; omega)]
    obtain ⟨v, es, g1, g2, g3, g4, g5, g6, g7⟩ := H.inner (i := r.Header) hi.1 (by omega)
    rw [List.getD_eq_getElem?_getD, g1]
    exact own_sl (t := tU32) H.M g3 g5 g4 (by omega)
  · rw [if_neg hi, if_pos (by simp; omega)]
    exact ⟨nilS, deep_closed rfl, sl_nil⟩
theorem f227o (H : OE h e a b c d eb ef em ep I R) (hE : EB e) {x1 : api_FieldRef} {v1 : PV} (r1 : api_FieldRef.t.R x1 v1) :
    FnX Tryz.prog 227 [.agg [a, b, c, d], v1] h (.tup [elv c ef x1, vb (env_element e x1).2]) h := by
  obtain ⟨r, h', X, rfl, rfl⟩ := fnX (P := Tryz.prog) (h := h) text227 (args := [.agg [a, b, c, d], v1]) (Φ := fun r k => r = .tup [elv c ef x1, vb (env_element e x1).2] ∧ k = h) (by simp) (by
    refine sR (rd_op (ov_box rfl rfl) (rd_op (ov_box rfl (TR.cnt api_FieldRef.t r1)) (rd_op (v := nilS) (ov_move rfl) (mB rfl (nS ?_)))))
    refine rc_seq (sR (lD r1 rfl rfl rfl (fL rfl (api_FieldRef.g_Field r1) rfl rfl ?_)))
    refine rd_op (v := .agg [vi (-1), vi x1.Field]) (ov_build (cs := [vi (-1), vi x1.Field]) rfl rfl) ?_
    refine bN (api_FieldRef.eql_87 r1 (show api_FieldRef.t.R ({ Header := (-1), Field := x1.Field } : api_FieldRef) (.agg [vi (-1), vi x1.Field]) from rfl)) rfl rfl ?_
    have ec : (x1 = ({ Header := -1, Field := x1.Field } : api_FieldRef)) ↔ x1.Header = -1 := by
      cases x1; simp [api_FieldRef.mk.injEq]
    obtain ⟨d0, a1, s0⟩ := own_sl (P := Tryz.prog) (t := tB) H.M (k := 0) rfl H.na H.v (by have := hE.v; omega)
    obtain ⟨d2, a3, s2⟩ := own_sl (P := Tryz.prog) (t := tU32) H.M (k := 2) rfl H.nc H.m (by have := hE.m; omega)
    have g2 : fieldR 2 1 false (.agg [a, b, c, d]) = some c := mk1 (mem_one H.M (k := 2) rfl H.nc).2
    have g1 : fieldR 1 1 false (.agg [a, b, c, d]) = some b := mk1 (mem_one H.M (k := 1) rfl H.nb).2
    have g0 : fieldR 0 1 false (.agg [a, b, c, d]) = some a := mk1 (mem_one H.M (k := 0) rfl H.na).2
    refine nS (rc_cond rfl (fun hc => ?_) fun hc => ?_)
    · simp only [decide_eq_true_eq, ec] at hc
      refine sR (fA rfl g2 (lR rfl (mem_cnt1 H.M (k := 2) rfl H.nc) (mem_one H.M (k := 2) rfl H.nc).2 (fA rfl g2 (lR rfl (mem_cnt1 H.M (k := 2) rfl H.nc) (mem_one H.M (k := 2) rfl H.nc).2 (fL rfl (api_FieldRef.g_Field r1) rfl rfl ?_)))))
      refine rd_call (cv_lend rfl rfl (dl_cons a3 (dl_cons (deep_closed rfl) dl_nil)) (f270_ok (x1 := x1.Field) s2) rfl) (mV rfl (mV rfl (nS ?_)))
      refine rc_retX (.tmp rfl (.tmp rfl .nil)) ⟨?_, rfl⟩
      have e2 : (env_element e x1).2 = env_in_uint32 e.Metd x1.Field := by
        unfold env_element
        simp only [LET]
        rw [if_pos (by simp only [decide_eq_true_eq, ec]; exact hc)]
      rw [e2]
      unfold elv
      rw [if_pos hc]
      rfl
    · simp only [decide_eq_false_iff_not, ec] at hc
      obtain ⟨d1, a2, s1⟩ := H.elv_ok x1 hc
      have e1 : (if 0 ≤ x1.Header ∧ x1.Header < (ef.length : Int) then ef.getD x1.Header.toNat nilS else nilS) = elv c ef x1 := by unfold elv; rw [if_neg hc]
      have f1 := f271o H.M (k := 1) rfl H.nb H.wb H.aggs (i := x1.Header)
      rw [e1] at f1
      refine rc_skip (pn_seq (rc_seq (rc_regionS ?_)))
      refine rs_step (rd_op (ov_faddr rfl g1) (rs_back (rs_step (rd_op (ov_load rfl (mem_cnt1 H.M (k := 1) rfl H.nb) (mem_one H.M (k := 1) rfl H.nb).2) (rs_back ?_)))))
      refine rs_step (rd_op (ov_faddr rfl (api_FieldRef.g_Header r1)) (rs_back (rs_step (rd_op (ov_load rfl rfl rfl) (rs_back ?_)))))
      refine rs_callXc rfl rfl f1 ?_
      refine rs_step (rd_op (ov_move rfl) (rs_back (rs_nil ?_)))
      refine pn_seq (sR (rd_op (ov_move rfl) ?_))
      refine rd_op (ov_faddr rfl g0) (rd_op (ov_load rfl (mem_cnt1 H.M (k := 0) rfl H.na) (mem_one H.M (k := 0) rfl H.na).2) (fL rfl (api_FieldRef.g_Header r1) rfl rfl ?_))
      refine rd_call (cv_lend rfl rfl (dl_cons a1 (dl_cons (deep_closed rfl) dl_nil)) (f272_ok (x1 := x1.Header) s0) rfl) (mV rfl ?_)
      refine rd_cutn 5 (d := 35) (v := vb ((env_at_bool e.Valid x1.Header) && (env_in_uint32 (env_at__uint32_ e.Fields x1.Header) x1.Field))) ?_ ?_
      · intro S Q r
        cases a0 : (env_at_bool e.Valid x1.Header)
        · exact gN 4 rfl rfl rfl rfl rfl rfl
        · intro k
          refine rd_yes rfl rfl (ov_move rfl) ?_
          refine rd_yes rfl rfl (ov_faddr rfl (api_FieldRef.g_Field r1)) ?_
          refine rd_yes rfl rfl (ov_load rfl rfl rfl) ?_
          refine rd_ycall rfl rfl (cv_lend rfl rfl (dl_cons a2 (dl_cons (deep_closed rfl) dl_nil)) (f270_ok (x1 := x1.Field) s1) rfl) ?_
          exact gK rfl rfl rfl rfl rfl k
      refine mV rfl (mV rfl (nS ?_))
      refine rc_retX (.tmp rfl (.tmp rfl .nil)) ⟨?_, rfl⟩
      have e2 : (env_element e x1).2 = ((env_at_bool e.Valid x1.Header) && (env_in_uint32 (env_at__uint32_ e.Fields x1.Header) x1.Field)) := by
        unfold env_element
        simp only [LET]
        rw [if_neg (by simp only [decide_eq_true_eq, ec]; exact hc)]
      rw [e2]
      rfl)
  exact X
end
theorem ret_env {S : List Fr} {E : TEnv} {h : Heap} {e : api_Env} {a b c d : PV} {eb ef em ep : List PV} {I R : List Ent} {i8 w8 i9 w9 dl t8 t9 : Nat} {x : PV} (H : OE h e a b c d eb ef em ep I (⟨.op i9 w9 0, 46, 4, [.agg [a, b, c, d]]⟩ :: ⟨.op i8 w8 0, 46, 4, [x]⟩ :: R)) (hE : EB e)
    (h9 : Pb.look t9 E = some (.op i9 w9 0)) (h8 : Pb.look t8 E = some (.op i8 w8 0)) (hd : Nat.beq t8 dl = false) : RC Tryz.prog (.seq (.region false [⟨some dl, .load 4 true (.tmp t9), none, false⟩, ⟨none, .store 4 (.tmp t8) (.tmp dl), none, false⟩]) .ret) S (QR Tryz.prog [(t8, some (4, true))] (api_Env.t.R e)) E h := by
  have e8 : evE ((dl, .agg [a, b, c, d]) :: E) (.tmp t8) = some (.op i8 w8 0) := by
    have : Nat.beq t8 dl = false := hd
    simp only [evE, Pb.look, this, cond_false]; exact h8
  have a0 : Pb.look t8 ((dl, .agg [a, b, c, d]) :: E) = some (.op i8 w8 0) := e8
  have ed : evE ((dl, .agg [a, b, c, d]) :: E) (.tmp dl) = some (.agg [a, b, c, d]) := by simp [evE, Pb.look]
  refine sR (rd_op (ov_load0 (k := 0) H.pull h9 rfl rfl) ?_)
  have M := H.pull
  have hk : (⟨a, 4, 1, eb⟩ :: ⟨b, 43, 1, ef⟩ :: ⟨c, 89, 1, em⟩ :: ⟨d, 5, 1, ep⟩ :: (I ++ (⟨.op i9 w9 0, 46, 4, [.agg [a, b, c, d]]⟩ :: ⟨.op i8 w8 0, 46, 4, [x]⟩ :: R)))[I.length + 5]? = some (⟨.op i8 w8 0, 46, 4, [x]⟩ : Ent) := by
    simp only [List.getElem?_cons_succ]
    rw [List.getElem?_append_right (by omega), show I.length + 1 - I.length = 1 by omega]; rfl
  refine rd_storeO (k := I.length + 5) (v := .agg [a, b, c, d]) H.M e8 ed hk rfl (fun h' M' => nS ?_)
  have hset : (I ++ (⟨.op i9 w9 0, 46, 4, [.agg [a, b, c, d]]⟩ :: ⟨.op i8 w8 0, 46, 4, [x]⟩ :: R)).set (I.length + 1) ⟨.op i8 w8 0, 46, 4, [.agg [a, b, c, d]]⟩ = I ++ (⟨.op i9 w9 0, 46, 4, [.agg [a, b, c, d]]⟩ :: ⟨.op i8 w8 0, 46, 4, [.agg [a, b, c, d]]⟩ :: R) := by
    rw [List.set_append_right _ _ (by omega), show I.length + 1 - I.length = 1 by omega]; rfl
  have H' : OE h' e a b c d eb ef em ep I (⟨.op i9 w9 0, 46, 4, [.agg [a, b, c, d]]⟩ :: ⟨.op i8 w8 0, 46, 4, [.agg [a, b, c, d]]⟩ :: R) := H.mem (by
    simp only [List.set_cons_succ] at M'
    rwa [hset] at M')
  obtain ⟨d', hd', hr⟩ := H'.deep hE
  have hk' : (⟨a, 4, 1, eb⟩ :: ⟨b, 43, 1, ef⟩ :: ⟨c, 89, 1, em⟩ :: ⟨d, 5, 1, ep⟩ :: (I ++ (⟨.op i9 w9 0, 46, 4, [.agg [a, b, c, d]]⟩ :: ⟨.op i8 w8 0, 46, 4, [.agg [a, b, c, d]]⟩ :: R)))[I.length + 5]? = some (⟨.op i8 w8 0, 46, 4, [.agg [a, b, c, d]]⟩ : Ent) := by
    simp only [List.getElem?_cons_succ]
    rw [List.getElem?_append_right (by omega), show I.length + 1 - I.length = 1 by omega]; rfl
  exact rc_retV (.cell a0 (load_whole (k := I.length + 5) H'.M hk' rfl) .nil) hd' hr
theorem in_ok {l : List (BitVec 32)} {i : Int} (h : env_in_uint32 l i = true) : 0 ≤ i ∧ i < l.length := by
  unfold env_in_uint32 at h
  simpa using h
theorem at_in {l : List (List (BitVec 32))} {i j : Int} (h : env_in_uint32 (env_at__uint32_ l i) j = true) : (0 ≤ i ∧ i < l.length) ∧ 0 ≤ j ∧ j < (ix l i).length := by
  unfold env_at__uint32_ at h
  split at h
  · have := in_ok h
    simp at this
    omega
  · rename_i hc
    simp only [Bool.or_eq_true, decide_eq_true_eq, not_or] at hc
    exact ⟨by omega, in_ok h⟩
theorem f188_ok {x0 : api_Program} {x1 : api_Env} {x2 : api_FieldRef} {x3 : BitVec 32} {v0 v1 v2 : PV} (r0 : api_Program.t.R x0 v0) (r1 : api_Env.t.R x1 v1) (r2 : api_FieldRef.t.R x2 v2) (hE : EB x1) : ∃ r, FnR Tryz.prog 188 [v0, v1, v2, vu32 x3] r ∧ api_Env.t.R (env_Set x0 x1 x2 x3) r := by
  refine fnE text188 (by simp) ?_
  refine rc_seq (rc_region ?_)
  refine rd_op (ov_box rfl (TR.cnt api_Program.t r0)) (rd_op (ov_box rfl (TR.cnt api_Env.t r1)) (rd_op (ov_box rfl (TR.cnt api_FieldRef.t r2)) ?_))
  refine rd_allocO (x := .agg [nilS, nilS, nilS, nilS]) (Mem.nil _) rfl rfl (fun i8 w8 h8 M8 => ?_)
  refine rd_nil (pn_seq (rc_seq (rc_regionS ?_)))
  refine rs_step (rd_op (ov_load rfl (TR.cnt api_Env.t r1) (TR.agg api_Env.t r1)) (rs_back ?_))
  obtain ⟨rr, k, X, a, b, c, d, eb, ef, em, ep, I, rfl, H⟩ := f116o_ok r1 hE M8
  refine rs_callXc rfl rfl X ?_
  refine rs_step (rd_allocO (x := .agg [nilS, nilS, nilS, nilS]) H.M rfl rfl (fun i9 w9 h9 M9 => rs_back ?_))
  refine rs_step (rd_storeO (k := 0) (v := .agg [a, b, c, d]) M9 rfl rfl rfl rfl (fun a1 a0 => rs_back (rs_nil ?_)))
  replace H := H.push (g := ⟨.op i9 w9 0, 46, 4, [.agg [a, b, c, d]]⟩) a0
  clear M8 M9 a0 X
  refine pn_seq (rc_seq (rc_region ?_))
  refine lD r0 rfl rfl rfl (lD r2 rfl rfl rfl ?_)
  refine cL (f136_ok r0 r2) rfl rfl (clL_cons (TR.clo _ r0) (clL_cons (TR.clo _ r2) clL_nil)) (mV rfl ?_)
  refine rd_nil (pn_seq (rc_seq (rc_seq (rc_regionS ?_))))
  refine rs_step (rd_op (ov_load0 (k := 0) H.pull rfl rfl rfl) (rs_back ?_))
  refine rs_step (rd_op (ov_load rfl (TR.cnt api_FieldRef.t r2) (TR.agg api_FieldRef.t r2)) (rs_back ?_))
  refine rs_callXc rfl rfl (f227o H hE r2) ?_
  refine rs_step (rd_op (ov_move rfl) (rs_back (rs_step (rd_op (ov_extract rfl rfl) (rs_back (rs_step (rd_op (ov_extract rfl rfl) (rs_back ?_))))))))
  refine rs_step (rd_op (ov_move rfl) (rs_back (rs_step (rd_op (ov_move rfl) (rs_back (rs_nil ?_))))))
  refine pn_seq (rc_seq (rc_region (mV rfl (mV rfl ?_))))
  refine rd_cutn 3 (d := 28) (v := vb ((env_element x1 x2).2 && decide (0 < env_Width x0 x2))) ?_ ?_
  · intro S Q r
    cases hb : (env_element x1 x2).2
    · exact gN 2 rfl rfl rfl rfl rfl rfl
    · intro k
      refine rd_yes rfl rfl (ov_move rfl) (rd_yes rfl rfl (ov_bin rfl rfl i_gtr) ?_)
      exact gK rfl rfl rfl rfl rfl k
  refine rd_nil (pn_seq (rc_cond rfl (fun hc => ?_) fun hc => ?_))
  · have hs : env_Set x0 x1 x2 x3 = putF x1 x2 (x3 &&& bitvec_Mask (env_Width x0 x2)) := by unfold env_Set; rw [if_pos hc]
    rw [hs]
    simp only [Bool.and_eq_true] at hc
    have el := hc.1
    unfold env_element at el
    simp only [LET] at el
    refine rc_region (mV rfl (fL rfl (api_FieldRef.g_Field r2) rfl rfl (mV rfl (mV rfl ?_))))
    refine cL (f182_ok (x0 := env_Width x0 x2)) rfl rfl (clL_cons rfl clL_nil) (bN w_and rfl rfl ?_)
    have ec : (x2 = ({ Header := -1, Field := x2.Field } : api_FieldRef)) ↔ x2.Header = -1 := by
      cases x2; simp [api_FieldRef.mk.injEq]
    by_cases hm : x2.Header = -1
    · rw [if_pos (by simp only [decide_eq_true_eq, ec]; exact hm)] at el
      have hi := in_ok el
      have e2 : elv c ef x2 = c := by unfold elv; rw [if_pos hm]
      have e3 : putF x1 x2 (x3 &&& bitvec_Mask (env_Width x0 x2)) = { x1 with Metd := x1.Metd.set x2.Field.toNat (x3 &&& bitvec_Mask (env_Width x0 x2)) } := by unfold putF; rw [if_pos hm]
      rw [e2, e3]
      obtain ⟨id, ver, n, rfl⟩ := wri_os H.wc H.m hi.1 hi.2
      have hn := mem_osn H.M (k := 2) rfl
      have hl := H.m.length
      refine rd_op (ov_iaddr rfl rfl (n_idx 1 (i := x2.Field) hi.1 (by omega))) ?_
      exact rd_setO (k := 2) (i := x2.Field.toNat) H.M rfl rfl rfl (by omega) rfl (fun h' M' => rd_nil (pn_seq (ret_env (H.setM M' ⟨_, _, _, rfl⟩) hE.setM rfl rfl rfl)))
    · rw [if_neg (by simp only [decide_eq_true_eq, ec]; exact hm)] at el
      simp only [Bool.and_eq_true] at el
      obtain ⟨hr, hi⟩ := at_in el.2
      have hlen := H.f.len.1
      obtain ⟨v, es, g1, g2, g3, g4, g5, g6, g7⟩ := H.inner hr.1 hr.2
      have e2 : elv c ef x2 = v := by unfold elv; rw [if_neg hm, if_pos ⟨hr.1, by omega⟩, List.getD_eq_getElem?_getD, g1]; rfl
      have e3 : putF x1 x2 (x3 &&& bitvec_Mask (env_Width x0 x2)) = { x1 with Fields := x1.Fields.set x2.Header.toNat ((ix x1.Fields x2.Header).set x2.Field.toNat (x3 &&& bitvec_Mask (env_Width x0 x2))) } := by unfold putF; rw [if_neg hm]
      rw [e2, e3]
      obtain ⟨id, ver, n, rfl⟩ := wri_os g7 g4 hi.1 hi.2
      have hn := mem_osn H.M g3
      have hl := g4.length
      refine rd_op (ov_iaddr rfl rfl (n_idx 1 (i := x2.Field) hi.1 (by omega))) ?_
      exact rd_setO (i := x2.Field.toNat) H.M rfl rfl g3 (by omega) rfl (fun h' M' => rd_nil (pn_seq (ret_env (H.setF g1 g2 g4 g5 g6 M' ⟨_, _, _, rfl⟩) (hE.setF (by rw [List.length_set]; exact hE.i _ (ix_mem hr.1 hr.2))) rfl rfl rfl)))
  · have hs : env_Set x0 x1 x2 x3 = x1 := by unfold env_Set; rw [if_neg (by rw [hc]; simp)]
    rw [hs]
    exact rc_skip (pn_seq (ret_env H hE rfl rfl rfl))

theorem dup_z {α : Type} [Inhabited α] {l : List (List α)} {i : Nat} (hi : i < l.length) : (l.take i ++ List.replicate (l.length - i) []).set i l[i] = l.take (i + 1) ++ List.replicate (l.length - (i + 1)) [] := by
  have e1 : (l.take i).length = i := by simp; omega
  rw [List.set_append_right _ _ (by omega), e1, Nat.sub_self, show l.length - i = (l.length - (i + 1)) + 1 by omega, List.replicate_succ, List.set_cons_zero, List.take_succ_eq_append_getElem hi, List.append_assoc]
  rfl
structure OR (h : Heap) (rs : List (List (BitVec 32))) (b : PV) (ef : List PV) (I R : List Ent) : Prop where
  M : Mem h (⟨b, 43, 1, ef⟩ :: (I ++ R))
  f : Ns tU32 89 rs ef I
  nb : isL b = true
  wb : ∃ id ver n, b = .os id ver 0 n
theorem dup_L1 {S : List Fr} {Q : Post} {x0 : List (List (BitVec 32))} {v0 : PV} (q1 : (tSl (tSl tU32)).R x0 v0) (hE : RB x0) {id ver : Nat} {R_ : List Ent}
    (K : ∀ {h : Heap} {ef : List PV} {I : List Ent}, OR h x0 (.os id ver 0 x0.length) ef I R_ → PX Tryz.prog 0 S Q [(3, .os id ver 0 x0.length)] h) :
    ∀ (m : Nat) {i : Int} {ef : List PV} {I : List Ent} {h : Heap}, m = Int.toNat ((x0.length : Int) - i) → 0 ≤ i → i ≤ x0.length →
      OR h (x0.take i.toNat ++ List.replicate (x0.length - i.toNat) []) (.os id ver 0 x0.length) ef I R_ →
      RC Tryz.prog (.loop ac231_L1) S Q [(11, vi i), (10, vi (x0.length : Int)), (9, v0), (3, .os id ver 0 x0.length)] h
  | 0, i, ef, I, h, hm, h0, h1, H => by
    refine rc_loop ?_
    refine rc_seq (rc_region (rd_op (ov_bin rfl rfl i_lss) (rd_nil (pn_seq (rc_seq (rc_cond rfl (fun hc => ?_) fun hc => ?_))))))
    · simp only [decide_eq_true_eq] at hc; omega
    · have e : i = x0.length := by omega
      subst e
      rw [Int.toNat_natCast, List.take_length, Nat.sub_self, List.replicate_zero, List.append_nil] at H
      exact rc_exit (px_seq (px_again (wP (K H) rfl)))
  | m + 1, i, ef, I, h, hm, h0, h1, H => by
    have hlt : i < (x0.length : Int) := by omega
    refine rc_loop ?_
    refine rc_seq (rc_region (rd_op (ov_bin rfl rfl i_lss) (rd_nil (pn_seq (rc_seq (rc_cond rfl (fun hc => ?_) fun hc => ?_))))))
    · refine rc_skip (pn_seq (rc_seq (rc_block ?_)))
      obtain ⟨g0, e0, q0⟩ := sl_idx (i := i) q1 h0 hlt
      have hb := jn_ix hE.i h0 hlt
      have hen : ef.length = x0.length := by rw [H.f.len.1]; simp; omega
      have hIn : I.length = x0.length := by rw [H.f.len.2]; simp; omega
      refine rc_seq (rc_region ?_)
      refine mV rfl (rd_op (ov_iaddr rfl rfl e0) (rd_op (ov_load rfl (TR.cnt _ q0) (TR.agg _ q0)) (mV rfl (mV rfl ?_))))
      refine rd_nil (pn_seq (rc_seq (rc_region ?_)))
      refine mV rfl (mV rfl (mV rfl (rd_op (ov_bi rfl (sl_len q0 Tryz.underlying43 _)) ?_)))
      have ff : fits (ix x0 i).length 4 = true := fits_of (by omega) (by omega)
      refine rd_makeO (sz := 1) (ty := 89) (n := (ix x0 i).length) (zz := vu32 0#32) H.M rfl rfl rfl rfl rfl ff (fun j w h2 M2 => ?_)
      refine rd_op (ov_iaddr rfl rfl (n_idx 1 (i := i) h0 (by omega))) ?_
      refine rd_setO (k := 1) (i := i.toNat) M2 rfl rfl rfl (by omega) rfl (fun h3 M3 => ?_)
      have M4 : Mem h3 (⟨.os id ver 0 x0.length, 43, 1, ef.set i.toNat (.os j w 0 (ix x0 i).length)⟩ :: (I.set i.toNat ⟨.os j w 0 (ix x0 i).length, 89, 1, List.replicate (ix x0 i).length (vu32 0#32)⟩ ++ R_)) :=
        ns_back (C := [⟨.os id ver 0 x0.length, 43, 1, ef.set i.toNat (.os j w 0 (ix x0 i).length)⟩]) (Mem.sub M3 (.cons_cons _ (.cons_cons _ (List.Sublist.append_right (List.eraseIdx_sublist ..) _)))) (by omega)
      refine rd_nil (pn_seq (rc_region (mV rfl (mV rfl ?_))))
      refine rd_op (ov_iaddr rfl rfl (n_idx 1 (i := i) h0 (by omega))) ?_
      refine rd_op (ov_elem (k := 0) M4 rfl rfl (List.getElem?_set_self (by omega)) rfl) (mV rfl ?_)
      obtain ⟨nw, sr, ar⟩ := src_of (t := tU32) (h := h3) q0
      have hk : (⟨.os id ver 0 x0.length, 43, 1, ef.set i.toNat (.os j w 0 (ix x0 i).length)⟩ :: (I.set i.toNat ⟨.os j w 0 (ix x0 i).length, 89, 1, List.replicate (ix x0 i).length (vu32 0#32)⟩ ++ R_))[i.toNat + 1]? = some (⟨.os j w 0 (ix x0 i).length, 89, 1, List.replicate (ix x0 i).length (vu32 0#32)⟩ : Ent) := by
        rw [List.getElem?_cons_succ, List.getElem?_append_left (by rw [List.length_set]; omega), List.getElem?_set_self (by omega)]
      refine rd_copy M4 rfl rfl hk sr (by rw [ar.length, List.length_replicate]) (fun h5 M5 => ?_)
      rw [List.set_cons_succ, List.set_append_left _ _ (by rw [List.length_set]; omega), List.set_set] at M5
      refine rd_nil (pn_blk (pn_seq (rc_region (rd_op (ov_bin rfl rfl i_add) (mV rfl (rd_nil (pn_again ?_)))))))
      have hinc : wr (i + 1) = i + 1 := wr_of (by omega) (by have := hE.o; omega)
      refine rc_weak ?_ (dup_L1 q1 hE K m (i := i + 1) (by omega) (by omega) (by omega) ⟨M5, ?_, rfl, _, _, _, rfl⟩)
      · exact sub_cons (by show some (vi (wr (i + 1))) = _; rw [hinc]) (sB rfl)
      · have e := dup_z (l := x0) (i := i.toNat) (by omega)
        rw [← ix_lt h0 hlt] at e
        rw [show (i + 1).toNat = i.toNat + 1 by omega, ← e]
        exact ns_put H.f ar rfl (by omega) (.inr ⟨_, _, _, rfl⟩)
    · simp only [decide_eq_false_iff_not] at hc; omega
theorem dup_own {f n : Nat} (X : FnText Tryz.prog f [] n 1 ac231 [(2, none)]) {x0 : List (List (BitVec 32))} {v0 : PV} (r0 : (tSl (tSl tU32)).R x0 v0) (hE : RB x0) {h_ : Heap} {R_ : List Ent} (M_ : Mem h_ R_) : ∃ r k, FnX Tryz.prog f [v0] h_ r k ∧ ∃ ef I, OR k x0 r ef I R_ := by
  refine fnX X (by simp) ?_
  refine rc_seq (rc_region (rd_op (v := nilS) (ov_move rfl) (rd_nil (pn_seq (rc_seq (rc_region ?_))))))
  refine mV rfl (rd_op (ov_bi rfl (sl_len r0 Tryz.underlying42 _)) ?_)
  have ff : fits x0.length 24 = true := fits_of (by have := hE.o; omega) (by have := hE.o; omega)
  refine rd_makeO (sz := 1) (ty := 43) (n := x0.length) (zz := nilS) M_ rfl rfl rfl rfl rfl ff (fun id ver h2 M2 => ?_)
  have M3 := ns_new (C := [⟨.os id ver 0 x0.length, 43, 1, List.replicate x0.length nilS⟩]) M2 89 1 x0.length
  refine mV rfl (rd_nil (pn_seq (rc_seq (rc_seq (rc_region ?_)))))
  refine mV rfl (rd_op (ov_bi rfl (sl_len r0 Tryz.underlying42 _)) (mV rfl (rd_nil (pn_seq (rc_block ?_)))))
  refine wC (dup_L1 (x0 := x0) r0 hE (R_ := R_) ?_ x0.length (i := 0) (by omega) (by omega) (by omega) ⟨M3, (by rw [show Int.toNat 0 = 0 from rfl, List.take_zero, List.nil_append, Nat.sub_zero]; exact ns_rep (t := tU32) (ty := 89) x0.length), rfl, _, _, _, rfl⟩) rfl
  · intro h ef I H
    refine px_blk (pn_seq (rc_seq (rc_region (mV rfl (mV rfl (rd_nil (pn_seq ?_)))))))
    exact rc_retX (.tmp rfl .nil) ⟨ef, I, H⟩
theorem OR.deep {h : Heap} {rs : List (List (BitVec 32))} {b : PV} {ef : List PV} {I R : List Ent} (H : OR h rs b ef I R) (hb : RB rs) : ∃ r, Deep Tryz.prog h b r ∧ (tSl (tSl tU32)).R rs r :=
  ns_deep (P := Tryz.prog) (C := [⟨b, 43, 1, ef⟩]) (k := 0) H.M rfl H.nb H.f (by have := hb.o; omega)
theorem f117_ok {x0 : List (List (BitVec 32))} {v0 : PV} (r0 : (tSl (tSl tU32)).R x0 v0) (hE : RB x0) : ∃ r, FnR Tryz.prog 117 [v0] r ∧ (tSl (tSl tU32)).R (action_duplicate x0) r := by
  obtain ⟨r, k, X, ef, I, H⟩ := dup_own text117 r0 hE (Mem.nil ⟨0, []⟩)
  obtain ⟨d, hd, hr⟩ := H.deep hE
  exact ⟨d, FnR.of_X X hd, hr⟩

def RF114 (res : Bool) (r : PV) : Prop := r = vb res
theorem f114_ok {x0 : BitVec 32} {x1 : Int} : FnR Tryz.prog 114 [vu32 x0, vi x1] (vb (bitvec_Fits x0 x1)) := by
  refine fnS (R := RF114) text114 (fun _ h => h) rfl fun res hres => ?_
  unfold bitvec_Fits at hres
  refine sR ?_
  refine mB rfl ?_
  refine nR ?_
  refine mV rfl ?_
  refine rd_op (v := .fs true [vi x1]) (ov_bslice rfl (all_cons rfl all_nil)) ?_
  have a3 : (tSl tI).R ([x1] : List Int) (.fs true [vi x1]) := sl_fs ⟨rfl, trivial⟩ (by simp)
  obtain ⟨a5, a2, hres⟩ := let_ex hres
  have a1 := f181_ok  a3 
  rw [a2] at a1
  refine cL a1 rfl rfl (clL_cons (TR.clo (tSl tI) a3) clL_nil) ?_
  refine mV rfl ?_
  refine rd_cutn 5 (d := 13) (v := vb (a5 && (decide (x0 ≤ (bitvec_Mask x1))))) ?_ ?_
  · intro S Q r
    cases a4 : a5
    · exact gN 4 rfl rfl rfl rfl rfl rfl
    · intro k
      have a0 := a4
      try simp only [qa, qaD] at a0
      refine rd_yes rfl rfl (ov_move rfl) ?_
      refine rd_yes rfl rfl (ov_move rfl) ?_
      have a6 := f182_ok (x0 := x1)  
      refine rd_ycall rfl rfl (cv_fn rfl rfl (clL_cons rfl clL_nil) a6) ?_
      refine rd_yes rfl rfl (ov_bin (a := vu32 x0) (b := vu32 (bitvec_Mask x1)) rfl rfl w_leq) ?_
      exact gK rfl rfl rfl rfl rfl k
  refine mV rfl ?_
  refine nS ?_
  exact rR hres rfl rfl rfl

def RF41 (res : Int) (r : PV) : Prop := r = vi res
theorem action_CheckCall_L1_ok {S : List Fr} {res : Int} {x0 : api_Program} {x1 : api_ActionCall} {a6 a4 : PV} (a5 : ((decide (x1.Action < 0)) || (decide ((x0.Actions.length : Int) ≤ x1.Action))) = false) (b3 : (tSl api_Field.t).R ((ix x0.Actions x1.Action).Params) a6) (a7 : (!decide ((x1.Args.length : Int) = (((ix x0.Actions x1.Action).Params).length : Int))) = false) (a8 : (tSl tU32).R x1.Args a4) {K0 : Unit → Int}
    (b5 : K0 () = res → PX Tryz.prog 0 S (QR Tryz.prog [(4, none)] (RF41 res)) [] ⟨0, []⟩) :
    ∀ {m : Nat} {a0 : Int} (b4 : m = Int.toNat ((x1.Args.length : Int) - a0)) (a9 : 0 ≤ a0), action_CheckCall_L1 x0 x1 K0 m a0 = res → RC Tryz.prog (.loop ac41_L1) S (QR Tryz.prog [(4, none)] (RF41 res)) [(35, vi a0), (34, vi (x1.Args.length : Int)), (33, a4), (5, a6)] ⟨0, []⟩ := by
  have a2 := a5
  try simp only [qa, qaD] at a2
  have a1 := a7
  try simp only [qa, qaD] at a1
  intro m
  induction m with
  | zero =>
    intro a0 b4 a9 hres
    rw [action_CheckCall_L1] at hres
    refine rc_loop ?_
    refine sR ?_
    refine bN i_lss rfl rfl ?_
    refine nS ?_
    refine rc_seq ?_
    refine rc_cond rfl ?_ ?_ <;> intro c <;> try simp only [qa, qaD] at c
    · omega
    refine rc_exit ?_
    refine px_seq ?_
    refine px_again ?_
    exact wP (b5  hres) rfl
  | succ m ih =>
    intro a0 b4 a9 hres
    rw [action_CheckCall_L1] at hres
    refine rc_loop ?_
    refine sR ?_
    refine bN i_lss rfl rfl ?_
    refine nS ?_
    refine rc_seq ?_
    refine rc_cond rfl ?_ ?_ <;> intro c <;> try simp only [qa, qaD] at c
    rotate_left
    · omega
    refine rc_skip ?_
    refine pn_seq ?_
    refine rc_seq ?_
    refine rc_block ?_
    refine sR ?_
    refine mV rfl ?_
    refine rd_op (ov_iaddr rfl rfl (slU32 a8 (by omega) (by omega))) ?_
    refine lR rfl rfl rfl ?_
    refine mV rfl ?_
    refine mV rfl ?_
    refine nR ?_
    refine mV rfl ?_
    refine mV rfl ?_
    refine mV rfl ?_
    obtain ⟨b7, b2, b1⟩ := sl_idx (i := a0) b3 (by omega) (by omega)
    refine rd_op (ov_iaddr rfl rfl b2) ?_
    refine fL rfl (api_Field.g_Width b1) rfl rfl ?_
    obtain ⟨b6, a3, hres⟩ := let_ex hres
    have b0 := f114_ok (x0 := (ix x1.Args a0)) (x1 := (ix ((ix x0.Actions x1.Action).Params) a0).Width)  
    rw [a3] at b0
    refine cL b0 rfl rfl (clL_cons rfl (clL_cons rfl clL_nil)) ?_
    refine rd_op (ov_not rfl) ?_
    refine nS ?_
    refine rc_br hres rfl ?_ ?_ <;> clear hres <;> intro c hres <;> try simp only [qa, qaD] at c
    · refine sR ?_
      refine mI rfl ?_
      refine nS ?_
      exact rR hres rfl rfl rfl
    · refine rc_skip ?_
      refine pn_blk ?_
      refine pn_seq ?_
      refine rc_region ?_
      refine bN i_add rfl rfl ?_
      refine mV rfl ?_
      refine rd_nil ?_
      refine pn_again ?_
      have hbd := sl_bound a8
      have hinc : wr (a0 + 1) = a0 + 1 := wr_of (by omega) (by omega)
      erw [hinc]
      exact wC (ih   (by omega) (by omega) hres) rfl

theorem f41_ok {x0 : api_Program} {x1 : api_ActionCall} {v0 v1 : PV} (r0 : api_Program.t.R x0 v0) (r1 : api_ActionCall.t.R x1 v1) : FnR Tryz.prog 41 [v0, v1] (vi (action_CheckCall x0 x1)) := by
  refine fnS (R := RF41) text41 (fun _ h => h) rfl fun res hres => ?_
  unfold action_CheckCall at hres
  refine sR ?_
  refine rd_op (ov_box rfl (TR.cnt api_Program.t r0)) ?_
  refine rd_op (ov_box rfl (TR.cnt api_ActionCall.t r1)) ?_
  refine mI rfl ?_
  refine nS ?_
  refine rc_seq ?_
  refine sR ?_
  refine fL rfl (api_ActionCall.g_Action r1) rfl rfl ?_
  refine bN i_lss rfl rfl ?_
  refine mV rfl ?_
  refine rd_cutn 7 (d := 18) (v := vb ((decide (x1.Action < 0)) || (decide ((x0.Actions.length : Int) ≤ x1.Action)))) ?_ ?_
  · intro S Q r
    cases a7 : (decide (x1.Action < 0))
    · intro k
      have a2 := a7
      try simp only [qa, qaD] at a2
      refine rd_yes rfl rfl (ov_faddr rfl (api_ActionCall.g_Action r1)) ?_
      refine rd_yes rfl rfl (ov_load rfl rfl rfl) ?_
      obtain ⟨b9, b1, a4⟩ := api_Program.g_Actions r0
      refine rd_yes rfl rfl (ov_faddr rfl b1) ?_
      refine rd_yes rfl rfl (ov_load rfl (TR.cnt (tSl api_Action.t) a4) (TR.agg (tSl api_Action.t) a4)) ?_
      refine rd_yes rfl rfl (ov_bi rfl (sl_len a4 Tryz.underlying25 _)) ?_
      refine rd_yes rfl rfl (ov_bin rfl rfl i_geq) ?_
      exact gK rfl rfl rfl rfl rfl k
    · exact gN 6 rfl rfl rfl rfl rfl rfl
  refine nS ?_
  refine rc_br hres rfl ?_ ?_ <;> clear hres <;> intro a0 hres <;> have a5 := a0 <;> try simp only [qa, qaD] at a5
  · refine sR ?_
    refine mI rfl ?_
    refine nS ?_
    exact rR hres rfl rfl rfl
  · refine rc_skip ?_
    refine pn_seq ?_
    refine sR ?_
    refine gL (api_Program.g_Actions r0) rfl rfl rfl fun b8 b0 => ?_
    refine fL rfl (api_ActionCall.g_Action r1) rfl rfl ?_
    obtain ⟨b5, a9, b2⟩ := sl_idx (i := x1.Action) b0 (by omega) (by omega)
    refine rd_op (ov_iaddr rfl rfl a9) ?_
    refine gL (api_Action.g_Params b2) rfl rfl rfl fun b7 a6 => ?_
    refine mV rfl ?_
    refine nS ?_
    refine rc_seq ?_
    refine sR ?_
    refine gL (api_ActionCall.g_Args r1) rfl rfl rfl fun b4 b3 => ?_
    refine rd_op (ov_bi rfl (sl_len b3 Tryz.underlying43 _)) ?_
    refine mV rfl ?_
    refine rd_op (ov_bi rfl (sl_len a6 Tryz.underlying23 _)) ?_
    refine bN i_neq rfl rfl ?_
    refine nS ?_
    refine rc_br hres rfl ?_ ?_ <;> clear hres <;> intro a1 hres <;> have a3 := a1 <;> try simp only [qa, qaD] at a3
    · refine sR ?_
      refine mI rfl ?_
      refine nS ?_
      exact rR hres rfl rfl rfl
    · refine rc_skip ?_
      refine pn_seq ?_
      refine rc_seq ?_
      refine sR ?_
      refine gL (api_ActionCall.g_Args r1) rfl rfl rfl fun b6 a8 => ?_
      refine rd_op (ov_bi rfl (sl_len a8 Tryz.underlying43 _)) ?_
      refine mI rfl ?_
      refine nS ?_
      refine rc_block ?_
      refine wC (action_CheckCall_L1_ok a0 a6 a1 a8 ?_  rfl (by omega) hres) rfl
      · intro  hres
        refine px_blk ?_
        refine pn_seq ?_
        refine sR ?_
        refine mI rfl ?_
        refine nS ?_
        exact rR hres rfl rfl rfl

def RF294 (res : (BitVec 32)) (r : PV) : Prop := r = vu32 res
theorem f294_ok {x0 : api_Env} {x1 : api_FieldRef} {v0 v1 : PV} (r0 : api_Env.t.R x0 v0) (r1 : api_FieldRef.t.R x1 v1) : FnR Tryz.prog 294 [v0, v1] (vu32 (env_Get x0 x1)) := by
  refine fnS (R := RF294) text294 (fun _ h => h) rfl fun res hres => ?_
  unfold env_Get at hres
  refine sR ?_
  refine rd_op (ov_box rfl (TR.cnt api_Env.t r0)) ?_
  refine rd_op (ov_box rfl (TR.cnt api_FieldRef.t r1)) ?_
  refine rd_op (v := vu32 0#32) (ov_move rfl) ?_
  refine nR ?_
  refine lD r0 rfl rfl rfl ?_
  refine lD r1 rfl rfl rfl ?_
  obtain ⟨a4, a1, hres⟩ := let_ex hres
  obtain ⟨a3, a0, a2⟩ := f227_ok  r0 r1 
  rw [a1] at a0 a2
  refine cL a0 rfl rfl (clL_cons (TR.clo api_Env.t r0) (clL_cons (TR.clo api_FieldRef.t r1) clL_nil)) ?_
  refine mV rfl ?_
  refine xT rfl rfl ?_
  refine xT rfl rfl ?_
  refine mV rfl ?_
  refine mV rfl ?_
  refine nS ?_
  refine rc_seq ?_
  refine sR ?_
  refine mV rfl ?_
  refine rd_op (ov_not rfl) ?_
  refine nS ?_
  refine rc_br hres rfl ?_ ?_ <;> clear hres <;> intro c hres <;> try simp only [qa, qaD] at c
  · refine sR ?_
    refine rd_op (v := vu32 0#32) (ov_move rfl) ?_
    refine nS ?_
    exact rR hres rfl rfl rfl
  · refine rc_skip ?_
    refine pn_seq ?_
    refine sR ?_
    refine mV rfl ?_
    refine fL rfl (api_FieldRef.g_Field r1) rfl rfl ?_
    refine rd_op (ov_iaddr rfl rfl (slU32 a2 (by first | omega | exact (el_ok (by assumption) (by assumption)).1 | exact (el_ok (by assumption) (by assumption)).2) (by first | omega | exact (el_ok (by assumption) (by assumption)).1 | exact (el_ok (by assumption) (by assumption)).2))) ?_
    refine lR rfl rfl rfl ?_
    refine mV rfl ?_
    refine nS ?_
    exact rR hres rfl rfl rfl

def RF289 (i0_ w0_ : Nat) (R_ : List Ent) (res : expr_value × expr_machine) (r : PV) (h : Heap) : Prop := ∃ uF0 : PV, ∃ c0_ : PV, Mem h (⟨.op i0_ w0_ 0, 299, 17, [uF0]⟩ :: R_) ∧ (expr_machine.t.R res.2 uF0) ∧ r = c0_ ∧ expr_value.t.R res.1 c0_
theorem f289_ok {x0 : expr_machine} {x1 : api_ExprNode} {v1 a5 : PV} {R_ : List Ent} {h_ : Heap} {b4 b5 : Nat} (r1 : api_ExprNode.t.R x1 v1) (a4 : expr_machine.t.R x0 a5) (M_ : Mem h_ (⟨.op b4 b5 0, 299, 17, [a5]⟩ :: R_)) (hp : (m1_expr_Scope__primary x0.scope x1).2 = 0) : ∃ r h3, FnX Tryz.prog 289 [.op b4 b5 0, v1] h_ r h3 ∧ RF289 b4 b5 R_ (m2_expr_machine__load x0 x1) r h3 := by
  refine fnXX (R := RF289 b4 b5 R_) text289 rfl fun res hres => ?_
  unfold m2_expr_machine__load at hres
  refine sR ?_
  refine rd_op (ov_box rfl (TR.cnt api_ExprNode.t r1)) ?_
  refine rd_allocO (x := .agg [vu32 0#32, vi 0]) M_ rfl rfl (fun a1 a2 h4 a3 => ?_)
  refine nR ?_
  refine mV rfl ?_
  refine rd_op (ov_nilCheck rfl rfl) ?_
  refine rd_op (ov_faddrO rfl) ?_
  obtain ⟨h9, g4, e0⟩ := expr_machine.g_scope a4
  refine rd_op (ov_loadf (k := 1) a3 rfl rfl g4) ?_
  refine lD r1 rfl rfl rfl ?_
  obtain ⟨a0, d2, hres⟩ := let_ex hres
  have f2 := f268_ok  e0 r1 
  rw [d2] at f2
  refine cL f2 rfl rfl (clL_cons (TR.clo expr_Scope.t e0) (clL_cons (TR.clo api_ExprNode.t r1) clL_nil)) ?_
  refine mV rfl ?_
  refine xT rfl rfl ?_
  refine xT rfl rfl ?_
  refine mV rfl ?_
  refine mV rfl ?_
  refine nR ?_
  refine rd_op (v := vu32 0#32) (ov_move rfl) ?_
  refine nS ?_
  refine rc_seq ?_
  refine sR ?_
  refine fL rfl (api_ExprNode.g_Op r1) rfl rfl ?_
  refine nS ?_
  refine rc_block ?_
  refine sR ?_
  refine bN i_eql rfl rfl ?_
  refine mV rfl ?_
  refine nS ?_
  refine rc_br hres rfl ?_ ?_ <;> clear hres <;> intro c hres <;> try simp only [qa, qaD] at c
  · refine rc_region ?_
    refine fL rfl (api_ExprNode.g_N r1) rfl rfl ?_
    refine rd_op (ov_conv (a := vi x1.N) rfl (c_iw Tryz.underlying3 Tryz.underlying89)) ?_
    refine mV rfl ?_
    refine rd_nil ?_
    refine pn_blk ?_
    refine pn_seq ?_
    refine sR ?_
    refine mV rfl ?_
    refine mV rfl ?_
    obtain ⟨a8, c4, hres⟩ := let_ex hres
    have d0 := f182_ok (x0 := a0.1)  
    rw [c4] at d0
    refine cL d0 rfl rfl (clL_cons rfl clL_nil) ?_
    refine rd_op (ov_bin (a := vu32 (BitVec.ofInt 32 x1.N)) (b := vu32 a8) rfl rfl w_and) ?_
    refine mV rfl ?_
    refine rd_op (v := .agg [vu32 ((BitVec.ofInt 32 x1.N) &&& a8), vi a0.1]) (ov_build (cs := [vu32 ((BitVec.ofInt 32 x1.N) &&& a8), vi a0.1]) rfl rfl) ?_
    refine rd_storeO (k := 0) (v := .agg [vu32 ((BitVec.ofInt 32 x1.N) &&& a8), vi a0.1]) a3 rfl rfl rfl rfl (fun c9 c1 => ?_)
    replace c1 : Mem c9 (⟨.op a1 a2 0, 301, 2, [.agg [vu32 ((BitVec.ofInt 32 x1.N) &&& a8), vi a0.1]]⟩ :: ⟨.op b4 b5 0, 299, 17, [a5]⟩ :: R_) := c1
    refine nS ?_
    have f6 : Mem c9 (⟨.op b4 b5 0, 299, 17, [a5]⟩ :: ⟨.op a1 a2 0, 301, 2, [.agg [vu32 ((BitVec.ofInt 32 x1.N) &&& a8), vi a0.1]]⟩ :: R_) := (Mem.front (k := 1) c1 rfl)
    subst hres
    exact rc_retX (.cell rfl (load_whole (k := 0) c1 rfl rfl) .nil) ⟨a5, (.agg [vu32 ((BitVec.ofInt 32 x1.N) &&& a8), vi a0.1]), Mem.sub f6 (.cons_cons _ (.cons _ (List.Sublist.refl R_))), a4, rfl, (show expr_value.t.R ({ v := ((BitVec.ofInt 32 x1.N) &&& a8), w := a0.1 } : expr_value) (.agg [vu32 ((BitVec.ofInt 32 x1.N) &&& a8), vi a0.1]) from rfl)⟩
  · refine sR ?_
    refine bN i_eql rfl rfl ?_
    refine mV rfl ?_
    refine nS ?_
    refine rc_br hres rfl ?_ ?_ <;> clear hres <;> intro c hres <;> try simp only [qa, qaD] at c
    · refine rc_region ?_
      refine mV rfl ?_
      refine rd_op (ov_nilCheck rfl rfl) ?_
      refine rd_op (ov_faddrO rfl) ?_
      obtain ⟨i0, g2, f7⟩ := expr_machine.g_env a4
      refine rd_op (ov_loadf (k := 1) a3 rfl rfl g2) ?_
      refine fL rfl (api_ExprNode.g_N r1) rfl rfl ?_
      refine fL rfl (api_ExprNode.g_W r1) rfl rfl ?_
      refine rd_op (v := .agg [vi x1.N, vi x1.W]) (ov_build (cs := [vi x1.N, vi x1.W]) rfl rfl) ?_
      obtain ⟨b2, d7, hres⟩ := let_ex hres
      have d6 := f294_ok  f7 (show api_FieldRef.t.R ({ Header := x1.N, Field := x1.W } : api_FieldRef) (.agg [vi x1.N, vi x1.W]) from rfl) 
      rw [d7] at d6
      refine cL d6 rfl rfl (clL_cons (TR.clo api_Env.t f7) (clL_cons (TR.clo api_FieldRef.t (show api_FieldRef.t.R ({ Header := x1.N, Field := x1.W } : api_FieldRef) (.agg [vi x1.N, vi x1.W]) from rfl)) clL_nil)) ?_
      refine mV rfl ?_
      refine rd_nil ?_
      refine pn_blk ?_
      refine pn_seq ?_
      refine sR ?_
      refine mV rfl ?_
      refine mV rfl ?_
      obtain ⟨b1, f3, hres⟩ := let_ex hres
      have d3 := f182_ok (x0 := a0.1)  
      rw [f3] at d3
      refine cL d3 rfl rfl (clL_cons rfl clL_nil) ?_
      refine rd_op (ov_bin (a := vu32 b2) (b := vu32 b1) rfl rfl w_and) ?_
      refine mV rfl ?_
      refine rd_op (v := .agg [vu32 (b2 &&& b1), vi a0.1]) (ov_build (cs := [vu32 (b2 &&& b1), vi a0.1]) rfl rfl) ?_
      refine rd_storeO (k := 0) (v := .agg [vu32 (b2 &&& b1), vi a0.1]) a3 rfl rfl rfl rfl (fun e8 c0 => ?_)
      replace c0 : Mem e8 (⟨.op a1 a2 0, 301, 2, [.agg [vu32 (b2 &&& b1), vi a0.1]]⟩ :: ⟨.op b4 b5 0, 299, 17, [a5]⟩ :: R_) := c0
      refine nS ?_
      have f4 : Mem e8 (⟨.op b4 b5 0, 299, 17, [a5]⟩ :: ⟨.op a1 a2 0, 301, 2, [.agg [vu32 (b2 &&& b1), vi a0.1]]⟩ :: R_) := (Mem.front (k := 1) c0 rfl)
      subst hres
      exact rc_retX (.cell rfl (load_whole (k := 0) c0 rfl rfl) .nil) ⟨a5, (.agg [vu32 (b2 &&& b1), vi a0.1]), Mem.sub f4 (.cons_cons _ (.cons _ (List.Sublist.refl R_))), a4, rfl, (show expr_value.t.R ({ v := (b2 &&& b1), w := a0.1 } : expr_value) (.agg [vu32 (b2 &&& b1), vi a0.1]) from rfl)⟩
    · refine sR ?_
      refine bN i_eql rfl rfl ?_
      refine mV rfl ?_
      refine nS ?_
      refine rc_br hres rfl ?_ ?_ <;> clear hres <;> intro c hres <;> try simp only [qa, qaD] at c
      · refine sR ?_
        refine fL rfl (api_ExprNode.g_N r1) rfl rfl ?_
        refine mV rfl ?_
        refine rd_op (ov_nilCheck rfl rfl) ?_
        refine rd_op (ov_faddrO rfl) ?_
        obtain ⟨i1, g9, g8⟩ := expr_machine.g_args a4
        refine rd_op (ov_loadf (k := 1) a3 rfl rfl g9) ?_
        refine rd_op (ov_bi rfl (sl_len g8 Tryz.underlying43 _)) ?_
        refine bN i_lss rfl rfl ?_
        refine nS ?_
        refine rc_br hres rfl ?_ ?_ <;> clear hres <;> intro c hres <;> try simp only [qa, qaD] at c
        · refine rc_region ?_
          refine mV rfl ?_
          refine rd_op (ov_nilCheck rfl rfl) ?_
          refine rd_op (ov_faddrO rfl) ?_
          obtain ⟨h5, h2, g6⟩ := expr_machine.g_args a4
          refine rd_op (ov_loadf (k := 1) a3 rfl rfl h2) ?_
          refine fL rfl (api_ExprNode.g_N r1) rfl rfl ?_
          refine rd_op (ov_iaddr rfl rfl (slU32 g6 (by first | omega | (have hk := pr3 hp (by assumption); omega) | (have hk := pr4 hp (by assumption); omega)) (by first | omega | (have hk := pr3 hp (by assumption); omega) | (have hk := pr4 hp (by assumption); omega)))) ?_
          refine lR rfl rfl rfl ?_
          refine mV rfl ?_
          refine rd_nil ?_
          refine pn_blk ?_
          refine pn_seq ?_
          refine sR ?_
          refine mV rfl ?_
          refine mV rfl ?_
          obtain ⟨a6, d4, hres⟩ := let_ex hres
          have e7 := f182_ok (x0 := a0.1)  
          rw [d4] at e7
          refine cL e7 rfl rfl (clL_cons rfl clL_nil) ?_
          refine rd_op (ov_bin (a := vu32 (ix x0.args x1.N)) (b := vu32 a6) rfl rfl w_and) ?_
          refine mV rfl ?_
          refine rd_op (v := .agg [vu32 ((ix x0.args x1.N) &&& a6), vi a0.1]) (ov_build (cs := [vu32 ((ix x0.args x1.N) &&& a6), vi a0.1]) rfl rfl) ?_
          refine rd_storeO (k := 0) (v := .agg [vu32 ((ix x0.args x1.N) &&& a6), vi a0.1]) a3 rfl rfl rfl rfl (fun c5 c2 => ?_)
          replace c2 : Mem c5 (⟨.op a1 a2 0, 301, 2, [.agg [vu32 ((ix x0.args x1.N) &&& a6), vi a0.1]]⟩ :: ⟨.op b4 b5 0, 299, 17, [a5]⟩ :: R_) := c2
          refine nS ?_
          have c7 : Mem c5 (⟨.op b4 b5 0, 299, 17, [a5]⟩ :: ⟨.op a1 a2 0, 301, 2, [.agg [vu32 ((ix x0.args x1.N) &&& a6), vi a0.1]]⟩ :: R_) := (Mem.front (k := 1) c2 rfl)
          subst hres
          exact rc_retX (.cell rfl (load_whole (k := 0) c2 rfl rfl) .nil) ⟨a5, (.agg [vu32 ((ix x0.args x1.N) &&& a6), vi a0.1]), Mem.sub c7 (.cons_cons _ (.cons _ (List.Sublist.refl R_))), a4, rfl, (show expr_value.t.R ({ v := ((ix x0.args x1.N) &&& a6), w := a0.1 } : expr_value) (.agg [vu32 ((ix x0.args x1.N) &&& a6), vi a0.1]) from rfl)⟩
        · refine rc_skip ?_
          refine pn_blk ?_
          refine pn_seq ?_
          refine sR ?_
          refine mV rfl ?_
          refine mV rfl ?_
          obtain ⟨b0, c6, hres⟩ := let_ex hres
          have f0 := f182_ok (x0 := a0.1)  
          rw [c6] at f0
          refine cL f0 rfl rfl (clL_cons rfl clL_nil) ?_
          refine rd_op (ov_bin (a := vu32 0#32) (b := vu32 b0) rfl rfl w_and) ?_
          refine mV rfl ?_
          refine rd_op (v := .agg [vu32 (0#32 &&& b0), vi a0.1]) (ov_build (cs := [vu32 (0#32 &&& b0), vi a0.1]) rfl rfl) ?_
          refine rd_storeO (k := 0) (v := .agg [vu32 (0#32 &&& b0), vi a0.1]) a3 rfl rfl rfl rfl (fun c8 b9 => ?_)
          replace b9 : Mem c8 (⟨.op a1 a2 0, 301, 2, [.agg [vu32 (0#32 &&& b0), vi a0.1]]⟩ :: ⟨.op b4 b5 0, 299, 17, [a5]⟩ :: R_) := b9
          refine nS ?_
          have d8 : Mem c8 (⟨.op b4 b5 0, 299, 17, [a5]⟩ :: ⟨.op a1 a2 0, 301, 2, [.agg [vu32 (0#32 &&& b0), vi a0.1]]⟩ :: R_) := (Mem.front (k := 1) b9 rfl)
          subst hres
          exact rc_retX (.cell rfl (load_whole (k := 0) b9 rfl rfl) .nil) ⟨a5, (.agg [vu32 (0#32 &&& b0), vi a0.1]), Mem.sub d8 (.cons_cons _ (.cons _ (List.Sublist.refl R_))), a4, rfl, (show expr_value.t.R ({ v := (0#32 &&& b0), w := a0.1 } : expr_value) (.agg [vu32 (0#32 &&& b0), vi a0.1]) from rfl)⟩
      · refine sR ?_
        refine bN i_eql rfl rfl ?_
        refine mV rfl ?_
        refine nS ?_
        refine rc_br hres rfl ?_ ?_ <;> clear hres <;> intro c hres <;> try simp only [qa, qaD] at c
        · refine sR ?_
          refine fL rfl (api_ExprNode.g_N r1) rfl rfl ?_
          refine mV rfl ?_
          refine rd_op (ov_nilCheck rfl rfl) ?_
          refine rd_op (ov_faddrO rfl) ?_
          refine rd_op (ov_faddrO rfl) ?_
          obtain ⟨h7, f9, g3⟩ := expr_machine.g_env a4
          obtain ⟨h8, h1, g1⟩ := api_Env.g_Valid g3
          refine rd_op (ov_loadf (k := 1) a3 rfl rfl (field_field f9 h1)) ?_
          refine rd_op (ov_bi rfl (sl_len g1 Tryz.underlying41 _)) ?_
          refine bN i_lss rfl rfl ?_
          refine mV rfl ?_
          refine rd_cutn 10 (d := 75) (v := vb ((decide (x1.N < (x0.env.Valid.length : Int))) && (ix x0.env.Valid x1.N))) ?_ ?_
          · intro S Q r
            cases e1 : (decide (x1.N < (x0.env.Valid.length : Int)))
            · exact gN 9 rfl rfl rfl rfl rfl rfl
            · intro k
              have c3 := e1
              try simp only [qa, qaD] at c3
              refine rd_yes rfl rfl (ov_move rfl) ?_
              refine rd_yes rfl rfl (ov_nilCheck rfl rfl) ?_
              refine rd_yes rfl rfl (ov_faddrO rfl) ?_
              refine rd_yes rfl rfl (ov_faddrO rfl) ?_
              obtain ⟨i2, h0, g5⟩ := expr_machine.g_env a4
              obtain ⟨h6, g7, g0⟩ := api_Env.g_Valid g5
              refine rd_yes rfl rfl (ov_loadf (k := 1) a3 rfl rfl (field_field h0 g7)) ?_
              refine rd_yes rfl rfl (ov_faddr rfl (api_ExprNode.g_N r1)) ?_
              refine rd_yes rfl rfl (ov_load rfl rfl rfl) ?_
              refine rd_yes rfl rfl (ov_iaddr rfl rfl (slB g0 (by first | omega | (have hk := pr3 hp (by assumption); omega) | (have hk := pr4 hp (by assumption); omega)) (by first | omega | (have hk := pr3 hp (by assumption); omega) | (have hk := pr4 hp (by assumption); omega)))) ?_
              refine rd_yes rfl rfl (ov_load rfl rfl rfl) ?_
              exact gK rfl rfl rfl rfl rfl k
          refine nS ?_
          refine rc_br hres rfl ?_ ?_ <;> clear hres <;> intro c hres <;> try simp only [qa, qaD] at c
          · refine rc_region ?_
            refine rd_op (v := vu32 1#32) (ov_move rfl) ?_
            refine rd_nil ?_
            refine pn_blk ?_
            refine pn_seq ?_
            refine sR ?_
            refine mV rfl ?_
            refine mV rfl ?_
            obtain ⟨a7, f1, hres⟩ := let_ex hres
            have f8 := f182_ok (x0 := a0.1)  
            rw [f1] at f8
            refine cL f8 rfl rfl (clL_cons rfl clL_nil) ?_
            refine rd_op (ov_bin (a := vu32 1#32) (b := vu32 a7) rfl rfl w_and) ?_
            refine mV rfl ?_
            refine rd_op (v := .agg [vu32 (1#32 &&& a7), vi a0.1]) (ov_build (cs := [vu32 (1#32 &&& a7), vi a0.1]) rfl rfl) ?_
            refine rd_storeO (k := 0) (v := .agg [vu32 (1#32 &&& a7), vi a0.1]) a3 rfl rfl rfl rfl (fun e5 b8 => ?_)
            replace b8 : Mem e5 (⟨.op a1 a2 0, 301, 2, [.agg [vu32 (1#32 &&& a7), vi a0.1]]⟩ :: ⟨.op b4 b5 0, 299, 17, [a5]⟩ :: R_) := b8
            refine nS ?_
            have d1 : Mem e5 (⟨.op b4 b5 0, 299, 17, [a5]⟩ :: ⟨.op a1 a2 0, 301, 2, [.agg [vu32 (1#32 &&& a7), vi a0.1]]⟩ :: R_) := (Mem.front (k := 1) b8 rfl)
            subst hres
            exact rc_retX (.cell rfl (load_whole (k := 0) b8 rfl rfl) .nil) ⟨a5, (.agg [vu32 (1#32 &&& a7), vi a0.1]), Mem.sub d1 (.cons_cons _ (.cons _ (List.Sublist.refl R_))), a4, rfl, (show expr_value.t.R ({ v := (1#32 &&& a7), w := a0.1 } : expr_value) (.agg [vu32 (1#32 &&& a7), vi a0.1]) from rfl)⟩
          · refine rc_skip ?_
            refine pn_blk ?_
            refine pn_seq ?_
            refine sR ?_
            refine mV rfl ?_
            refine mV rfl ?_
            obtain ⟨b3, d9, hres⟩ := let_ex hres
            have e9 := f182_ok (x0 := a0.1)  
            rw [d9] at e9
            refine cL e9 rfl rfl (clL_cons rfl clL_nil) ?_
            refine rd_op (ov_bin (a := vu32 0#32) (b := vu32 b3) rfl rfl w_and) ?_
            refine mV rfl ?_
            refine rd_op (v := .agg [vu32 (0#32 &&& b3), vi a0.1]) (ov_build (cs := [vu32 (0#32 &&& b3), vi a0.1]) rfl rfl) ?_
            refine rd_storeO (k := 0) (v := .agg [vu32 (0#32 &&& b3), vi a0.1]) a3 rfl rfl rfl rfl (fun e3 b6 => ?_)
            replace b6 : Mem e3 (⟨.op a1 a2 0, 301, 2, [.agg [vu32 (0#32 &&& b3), vi a0.1]]⟩ :: ⟨.op b4 b5 0, 299, 17, [a5]⟩ :: R_) := b6
            refine nS ?_
            have f5 : Mem e3 (⟨.op b4 b5 0, 299, 17, [a5]⟩ :: ⟨.op a1 a2 0, 301, 2, [.agg [vu32 (0#32 &&& b3), vi a0.1]]⟩ :: R_) := (Mem.front (k := 1) b6 rfl)
            subst hres
            exact rc_retX (.cell rfl (load_whole (k := 0) b6 rfl rfl) .nil) ⟨a5, (.agg [vu32 (0#32 &&& b3), vi a0.1]), Mem.sub f5 (.cons_cons _ (.cons _ (List.Sublist.refl R_))), a4, rfl, (show expr_value.t.R ({ v := (0#32 &&& b3), w := a0.1 } : expr_value) (.agg [vu32 (0#32 &&& b3), vi a0.1]) from rfl)⟩
        · refine rc_skip ?_
          refine pn_blk ?_
          refine pn_seq ?_
          refine sR ?_
          refine mV rfl ?_
          refine mV rfl ?_
          obtain ⟨a9, e2, hres⟩ := let_ex hres
          have d5 := f182_ok (x0 := a0.1)  
          rw [e2] at d5
          refine cL d5 rfl rfl (clL_cons rfl clL_nil) ?_
          refine rd_op (ov_bin (a := vu32 0#32) (b := vu32 a9) rfl rfl w_and) ?_
          refine mV rfl ?_
          refine rd_op (v := .agg [vu32 (0#32 &&& a9), vi a0.1]) (ov_build (cs := [vu32 (0#32 &&& a9), vi a0.1]) rfl rfl) ?_
          refine rd_storeO (k := 0) (v := .agg [vu32 (0#32 &&& a9), vi a0.1]) a3 rfl rfl rfl rfl (fun e6 b7 => ?_)
          replace b7 : Mem e6 (⟨.op a1 a2 0, 301, 2, [.agg [vu32 (0#32 &&& a9), vi a0.1]]⟩ :: ⟨.op b4 b5 0, 299, 17, [a5]⟩ :: R_) := b7
          refine nS ?_
          have e4 : Mem e6 (⟨.op b4 b5 0, 299, 17, [a5]⟩ :: ⟨.op a1 a2 0, 301, 2, [.agg [vu32 (0#32 &&& a9), vi a0.1]]⟩ :: R_) := (Mem.front (k := 1) b7 rfl)
          subst hres
          exact rc_retX (.cell rfl (load_whole (k := 0) b7 rfl rfl) .nil) ⟨a5, (.agg [vu32 (0#32 &&& a9), vi a0.1]), Mem.sub e4 (.cons_cons _ (.cons _ (List.Sublist.refl R_))), a4, rfl, (show expr_value.t.R ({ v := (0#32 &&& a9), w := a0.1 } : expr_value) (.agg [vu32 (0#32 &&& a9), vi a0.1]) from rfl)⟩

end Go.Proofs.YtmonnlkagniolaaGreat
