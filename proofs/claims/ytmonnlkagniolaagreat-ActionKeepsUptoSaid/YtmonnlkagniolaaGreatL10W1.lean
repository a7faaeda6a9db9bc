/-
  The code of each function does what its plain program says.
-/
import Derived.Test.YtmonnlkagniolaaGreatL10W0
set_option linter.unusedVariables false
set_option linter.unusedSimpArgs false
set_option maxRecDepth 100000
namespace Go.Proofs.YtmonnlkagniolaaGreat
open Go Go.Pb Go.RowKit
def RF162 (res : Int) (r : PV) : Prop := r = vi res
theorem f162_ok {x0 : api_Register} {v0 : PV} (r0 : api_Register.t.R x0 v0) : FnR Tryz.prog 162 [v0] (vi (ref15_width x0)) := by
  refine fnS (R := RF162) text162 (fun _ h => h) rfl fun res hres => ?_
  unfold ref15_width at hres
  refine sR ?_
  refine rd_op (ov_box rfl (TR.cnt api_Register.t r0)) ?_
  refine mI rfl ?_
  refine nS ?_
  refine rc_seq ?_
  refine sR ?_
  refine fL rfl (api_Register.g_Width r0) rfl rfl ?_
  refine bN i_lss rfl rfl ?_
  refine mV rfl ?_
  refine rd_cutn 4 (d := 10) (v := vb ((decide (x0.Width < 1)) || (decide (32 < x0.Width)))) ?_ ?_
  · intro S Q r
    cases a1 : (decide (x0.Width < 1))
    · intro k
      have a0 := a1
      try simp only [qa, qaD] at a0
      refine rd_yes rfl rfl (ov_faddr rfl (api_Register.g_Width r0)) ?_
      refine rd_yes rfl rfl (ov_load rfl rfl rfl) ?_
      refine rd_yes rfl rfl (ov_bin rfl rfl i_gtr) ?_
      exact gK rfl rfl rfl rfl rfl k
    · exact gN 3 rfl rfl rfl rfl rfl rfl
  refine nS ?_
  refine rc_br hres rfl ?_ ?_ <;> clear hres <;> intro c hres <;> try simp only [qa, qaD] at c
  · refine sR ?_
    refine mI rfl ?_
    refine nS ?_
    exact rR hres rfl rfl rfl
  · refine rc_skip ?_
    refine pn_seq ?_
    refine sR ?_
    refine fL rfl (api_Register.g_Width r0) rfl rfl ?_
    refine mV rfl ?_
    refine nS ?_
    exact rR hres rfl rfl rfl

def RF123 (res : Int) (r : PV) : Prop := r = vi res
theorem ref15_CheckContents_L1_ok {S : List Fr} {res : Int} {x0 : api_Program} {x1 : List (List (BitVec 32))} {v0 v1 : PV} (r0 : api_Program.t.R x0 v0) (r1 : (tSl (tSl tU32)).R x1 v1) (a4 : (!decide ((x1.length : Int) = (x0.Registers.length : Int))) = false) {K0 : Unit → Int}
    (b2 : K0 () = res → PX Tryz.prog 0 S (QR Tryz.prog [(4, none)] (RF123 res)) [(1, v1), (2, .fp v0)] ⟨0, []⟩) :
    ∀ {m : Nat} {a0 : Int} (b0 : m = Int.toNat ((x1.length : Int) - a0)) (a2 : 0 ≤ a0), ref15_CheckContents_L1 x0 x1 K0 m a0 = res → RC Tryz.prog (.loop ac123_L1) S (QR Tryz.prog [(4, none)] (RF123 res)) [(5, vi a0), (2, .fp v0), (1, v1)] ⟨0, []⟩ := by
  have a1 := a4
  try simp only [qa, qaD] at a1
  intro m
  induction m with
  | zero =>
    intro a0 b0 a2 hres
    rw [ref15_CheckContents_L1] at hres
    refine rc_loop ?_
    refine rc_seq ?_
    refine sR ?_
    refine mV rfl ?_
    refine mV rfl ?_
    refine rd_op (ov_bi rfl (sl_len r1 Tryz.underlying42 _)) ?_
    refine bN i_lss rfl rfl ?_
    refine nS ?_
    refine rc_cond rfl ?_ ?_ <;> intro c <;> try simp only [qa, qaD] at c
    · omega
    refine rc_exit ?_
    refine px_seq ?_
    refine px_again ?_
    exact wP (b2  hres) rfl
  | succ m ih =>
    intro a0 b0 a2 hres
    rw [ref15_CheckContents_L1] at hres
    refine rc_loop ?_
    refine rc_seq ?_
    refine sR ?_
    refine mV rfl ?_
    refine mV rfl ?_
    refine rd_op (ov_bi rfl (sl_len r1 Tryz.underlying42 _)) ?_
    refine bN i_lss rfl rfl ?_
    refine nS ?_
    refine rc_cond rfl ?_ ?_ <;> intro c <;> try simp only [qa, qaD] at c
    rotate_left
    · omega
    refine rc_skip ?_
    refine pn_seq ?_
    refine rc_seq ?_
    refine rc_block ?_
    refine sR ?_
    refine mV rfl ?_
    refine mV rfl ?_
    obtain ⟨b3, a9, a5⟩ := sl_idx (i := a0) r1 (by omega) (by omega)
    refine rd_op (ov_iaddr rfl rfl a9) ?_
    refine lD a5 rfl rfl rfl ?_
    refine rd_op (ov_bi rfl (sl_len a5 Tryz.underlying43 _)) ?_
    obtain ⟨b1, a6, a3⟩ := api_Program.g_Registers r0
    refine fA rfl a6 ?_
    refine lD a3 rfl rfl rfl ?_
    refine mV rfl ?_
    obtain ⟨b4, a7, a8⟩ := sl_idx (i := a0) a3 (by omega) (by omega)
    refine rd_op (ov_iaddr rfl rfl a7) ?_
    refine fL rfl (api_Register.g_Size a8) rfl rfl ?_
    refine bN i_neq rfl rfl ?_
    refine nS ?_
    refine rc_br hres rfl ?_ ?_ <;> clear hres <;> intro c hres <;> try simp only [qa, qaD] at c
    · refine sR ?_
      refine mI rfl ?_
      refine nS ?_
      exact rR hres rfl rfl rfl
    · refine rc_skip ?_
      refine pn_blk ?_
      refine pn_seq ?_
      refine rc_region ?_
      refine mV rfl ?_
      refine bN i_add rfl rfl ?_
      refine mV rfl ?_
      refine rd_nil ?_
      refine pn_again ?_
      have hbd := sl_bound r1
      have hinc : wr (a0 + 1) = a0 + 1 := wr_of (by omega) (by omega)
      erw [hinc]
      exact wC (ih   (by omega) (by omega) hres) rfl

theorem ref15_CheckContents_L3_ok {S : List Fr} {res : Int} {x0 : api_Program} {x1 : List (List (BitVec 32))} {a0 : Int} {v0 v1 : PV} (r0 : api_Program.t.R x0 v0) (r1 : (tSl (tSl tU32)).R x1 v1) (a8 : (!decide ((x1.length : Int) = (x0.Registers.length : Int))) = false) (c4 : 0 ≤ a0) (b2 : (decide (a0 < (x1.length : Int))) = true) {K4 : Unit → Int}
    (c5 : K4 () = res → PX Tryz.prog 4 S (QR Tryz.prog [(4, none)] (RF123 res)) [(1, v1), (2, .fp v0), (6, vi a0)] ⟨0, []⟩) :
    ∀ {m : Nat} {a1 : Int} (c2 : m = Int.toNat (((ix x1 a0).length : Int) - a1)) (b0 : 0 ≤ a1), ref15_CheckContents_L3 x0 x1 a0 K4 m a1 = res → RC Tryz.prog (.loop ac123_L3) S (QR Tryz.prog [(4, none)] (RF123 res)) [(7, vi a1), (6, vi a0), (2, .fp v0), (1, v1)] ⟨0, []⟩ := by
  have a6 := a8
  try simp only [qa, qaD] at a6
  have a3 := b2
  try simp only [qa, qaD] at a3
  intro m
  induction m with
  | zero =>
    intro a1 c2 b0 hres
    rw [ref15_CheckContents_L3] at hres
    refine rc_loop ?_
    refine rc_seq ?_
    refine sR ?_
    refine mV rfl ?_
    refine mV rfl ?_
    refine mV rfl ?_
    obtain ⟨c6, b8, b1⟩ := sl_idx (i := a0) r1 (by omega) (by omega)
    refine rd_op (ov_iaddr rfl rfl b8) ?_
    refine lD b1 rfl rfl rfl ?_
    refine rd_op (ov_bi rfl (sl_len b1 Tryz.underlying43 _)) ?_
    refine bN i_lss rfl rfl ?_
    refine nS ?_
    refine rc_cond rfl ?_ ?_ <;> intro c <;> try simp only [qa, qaD] at c
    · omega
    refine rc_exit ?_
    refine px_seq ?_
    refine px_again ?_
    exact wP (c5  hres) rfl
  | succ m ih =>
    intro a1 c2 b0 hres
    rw [ref15_CheckContents_L3] at hres
    refine rc_loop ?_
    refine rc_seq ?_
    refine sR ?_
    refine mV rfl ?_
    refine mV rfl ?_
    refine mV rfl ?_
    obtain ⟨c9, b6, a5⟩ := sl_idx (i := a0) r1 (by omega) (by omega)
    refine rd_op (ov_iaddr rfl rfl b6) ?_
    refine lD a5 rfl rfl rfl ?_
    refine rd_op (ov_bi rfl (sl_len a5 Tryz.underlying43 _)) ?_
    refine bN i_lss rfl rfl ?_
    refine nS ?_
    refine rc_cond rfl ?_ ?_ <;> intro c <;> try simp only [qa, qaD] at c
    rotate_left
    · omega
    refine rc_skip ?_
    refine pn_seq ?_
    refine rc_seq ?_
    refine rc_block ?_
    refine sR ?_
    refine mV rfl ?_
    refine mV rfl ?_
    obtain ⟨c3, b9, b4⟩ := sl_idx (i := a0) r1 (by omega) (by omega)
    refine rd_op (ov_iaddr rfl rfl b9) ?_
    refine lD b4 rfl rfl rfl ?_
    refine mV rfl ?_
    refine rd_op (ov_iaddr rfl rfl (slU32 b4 (by omega) (by omega))) ?_
    refine lR rfl rfl rfl ?_
    refine gL (api_Program.g_Registers r0) rfl rfl rfl fun c7 c0 => ?_
    refine mV rfl ?_
    obtain ⟨d0, b7, a4⟩ := sl_idx (i := a0) c0 (by omega) (by omega)
    refine rd_op (ov_iaddr rfl rfl b7) ?_
    refine lD a4 rfl rfl rfl ?_
    obtain ⟨b3, a2, hres⟩ := let_ex hres
    have a7 := f162_ok  a4 
    rw [a2] at a7
    have c1 : b3 ≤ 32 := rw15_le a2
    refine cL a7 rfl rfl (clL_cons (TR.clo api_Register.t a4) clL_nil) ?_
    obtain ⟨c8, a9, hres⟩ := let_ex hres
    have b5 := f83_ok (x0 := (ix (ix x1 a0) a1)) (x1 := b3)  (by first | assumption | omega | (rw [wr_of (by omega) (by omega)]; omega) | (have hk := rval rfl (And.right (And.left (by assumption))); omega) | (have hk := rval (by assumption) (by assumption); omega) | (have hk := rval (by assumption) (And.left (by assumption)); omega) | (have hk := rval (by assumption) (And.left (And.left (by assumption))); have hz := rslc (by assumption); omega) | (simp; done) | (simp only [List.length_append, List.length_nil, List.length_cons]; omega) | (have hk := (chk_ok (by assumption) (by assumption)).1; omega) | (simp only [List.length_cons, List.length_nil]; omega) | (simp only [List.length_append]; have hk := (chk_ok (by assumption) (by assumption)).1; omega) | (simp only [List.length_append, List.length_nil]; have hk := (chk_ok (by assumption) (by assumption)).1; omega))
    rw [a9] at b5
    refine cL b5 rfl rfl (clL_cons rfl (clL_cons rfl clL_nil)) ?_
    refine rd_op (ov_not rfl) ?_
    refine nS ?_
    refine rc_br hres rfl ?_ ?_ <;> clear hres <;> intro c hres <;> try simp only [qa, qaD] at c
    · refine sR ?_
      refine mI rfl ?_
      refine nS ?_
      exact rR hres rfl rfl rfl
    · refine rc_skip ?_
      refine pn_blk ?_
      refine pn_seq ?_
      refine rc_region ?_
      refine mV rfl ?_
      refine bN i_add rfl rfl ?_
      refine mV rfl ?_
      refine rd_nil ?_
      refine pn_again ?_
      have hbd := sl_bound a5
      have hinc : wr (a1 + 1) = a1 + 1 := wr_of (by omega) (by omega)
      erw [hinc]
      exact wC (ih   (by omega) (by omega) hres) rfl

theorem ref15_CheckContents_L2_ok {S : List Fr} {res : Int} {x0 : api_Program} {x1 : List (List (BitVec 32))} {v0 v1 : PV} (r0 : api_Program.t.R x0 v0) (r1 : (tSl (tSl tU32)).R x1 v1) (a2 : (!decide ((x1.length : Int) = (x0.Registers.length : Int))) = false) {K2 : Unit → Int}
    (a7 : K2 () = res → PX Tryz.prog 2 S (QR Tryz.prog [(4, none)] (RF123 res)) [] ⟨0, []⟩) :
    ∀ {m : Nat} {a1 : Int} (a6 : m = Int.toNat ((x1.length : Int) - a1)) (a4 : 0 ≤ a1), ref15_CheckContents_L2 x0 x1 K2 m a1 = res → RC Tryz.prog (.loop ac123_L2) S (QR Tryz.prog [(4, none)] (RF123 res)) [(6, vi a1), (2, .fp v0), (1, v1)] ⟨0, []⟩ := by
  have a5 := a2
  try simp only [qa, qaD] at a5
  intro m
  induction m with
  | zero =>
    intro a1 a6 a4 hres
    rw [ref15_CheckContents_L2] at hres
    refine rc_loop ?_
    refine rc_seq ?_
    refine sR ?_
    refine mV rfl ?_
    refine mV rfl ?_
    refine rd_op (ov_bi rfl (sl_len r1 Tryz.underlying42 _)) ?_
    refine bN i_lss rfl rfl ?_
    refine nS ?_
    refine rc_cond rfl ?_ ?_ <;> intro c <;> try simp only [qa, qaD] at c
    · omega
    refine rc_exit ?_
    refine px_seq ?_
    refine px_again ?_
    exact wP (a7  hres) rfl
  | succ m ih =>
    intro a1 a6 a4 hres
    rw [ref15_CheckContents_L2] at hres
    refine rc_loop ?_
    refine rc_seq ?_
    refine sR ?_
    refine mV rfl ?_
    refine mV rfl ?_
    refine rd_op (ov_bi rfl (sl_len r1 Tryz.underlying42 _)) ?_
    refine bN i_lss rfl rfl ?_
    refine nS ?_
    refine rc_cond rfl (fun a0 => ?_) (fun a0 => ?_)
    · have hgo := hres
      have a3 := a0
      try simp only [qa, qaD] at a3
      refine rc_skip ?_
      refine pn_seq ?_
      refine rc_seq ?_
      refine rc_block ?_
      refine sR ?_
      refine mI rfl ?_
      refine nS ?_
      refine rc_block ?_
      refine wC (ref15_CheckContents_L3_ok r0 r1 a2 a4 a0 ?_  rfl (by omega) hres) rfl
      · intro  hres
        refine px_blk ?_
        refine pn_blk ?_
        refine pn_seq ?_
        refine rc_region ?_
        refine mV rfl ?_
        refine bN i_add rfl rfl ?_
        refine mV rfl ?_
        refine rd_nil ?_
        refine pn_again ?_
        have hbd := sl_bound r1
        have hinc : wr (a1 + 1) = a1 + 1 := wr_of (by omega) (by omega)
        erw [hinc]
        exact wC (ih   (by omega) (by omega) hres) rfl
    · exfalso
      try simp only [qa, qaD] at a0
      omega

theorem f123_ok {x0 : api_Program} {x1 : List (List (BitVec 32))} {v0 v1 : PV} (r0 : api_Program.t.R x0 v0) (r1 : (tSl (tSl tU32)).R x1 v1) : FnR Tryz.prog 123 [v0, v1] (vi (ref15_CheckContents x0 x1)) := by
  refine fnS (R := RF123) text123 (fun _ h => h) rfl fun res hres => ?_
  unfold ref15_CheckContents at hres
  refine sR ?_
  refine rd_op (ov_box rfl (TR.cnt api_Program.t r0)) ?_
  refine mI rfl ?_
  refine nS ?_
  refine rc_seq ?_
  refine sR ?_
  refine mV rfl ?_
  refine rd_op (ov_bi rfl (sl_len r1 Tryz.underlying42 _)) ?_
  obtain ⟨a4, a3, a2⟩ := api_Program.g_Registers r0
  refine fA rfl a3 ?_
  refine lD a2 rfl rfl rfl ?_
  refine rd_op (ov_bi rfl (sl_len a2 Tryz.underlying24 _)) ?_
  refine bN i_neq rfl rfl ?_
  refine nS ?_
  refine rc_br hres rfl ?_ ?_ <;> clear hres <;> intro a0 hres <;> have a1 := a0 <;> try simp only [qa, qaD] at a1
  · refine sR ?_
    refine mI rfl ?_
    refine nS ?_
    exact rR hres rfl rfl rfl
  · refine rc_skip ?_
    refine pn_seq ?_
    refine rc_seq ?_
    refine sR ?_
    refine mI rfl ?_
    refine nS ?_
    refine rc_block ?_
    refine wC (ref15_CheckContents_L1_ok r0 r1 a0 ?_  rfl (by omega) hres) rfl
    · intro  hres
      refine px_blk ?_
      refine pn_seq ?_
      refine rc_seq ?_
      refine sR ?_
      refine mI rfl ?_
      refine nS ?_
      refine rc_block ?_
      refine wC (ref15_CheckContents_L2_ok r0 r1 a0 ?_  rfl (by omega) hres) rfl
      · intro  hres
        refine px_blk ?_
        refine pn_seq ?_
        refine sR ?_
        refine mI rfl ?_
        refine nS ?_
        exact rR hres rfl rfl rfl

def RF47 (res : Bool) (r : PV) : Prop := r = vb res
theorem f47_ok {x0 : law16_Case} {v0 : PV} (r0 : law16_Case.t.R x0 v0) : FnR Tryz.prog 47 [v0] (vb (law16_right x0)) := by
  refine fnS (R := RF47) text47 (fun _ h => h) rfl fun res hres => ?_
  unfold law16_right at hres
  refine sR ?_
  refine rd_op (ov_box rfl (TR.cnt law16_Case.t r0)) ?_
  refine mB rfl ?_
  refine nR ?_
  refine gL (law16_Case.g_P r0) rfl rfl rfl fun b2 a7 => ?_
  refine gL (law16_Case.g_E r0) rfl rfl rfl fun b4 a8 => ?_
  obtain ⟨a5, a4, hres⟩ := let_ex hres
  have a3 := f21_ok  a7 a8 
  rw [a4] at a3
  refine cL a3 rfl rfl (clL_cons (TR.clo api_Program.t a7) (clL_cons (TR.clo api_Env.t a8) clL_nil)) ?_
  refine bN i_eql rfl rfl ?_
  refine mV rfl ?_
  refine rd_cutn 7 (d := 16) (v := vb ((decide (a5 = 0)) && (decide ((ref15_CheckContents x0.P x0.Regs) = 0)))) ?_ ?_
  · intro S Q r
    cases a6 : (decide (a5 = 0))
    · exact gN 6 rfl rfl rfl rfl rfl rfl
    · intro k
      have a2 := a6
      try simp only [qa, qaD] at a2
      obtain ⟨b5, b1, a1⟩ := law16_Case.g_P r0
      refine rd_yes rfl rfl (ov_faddr rfl b1) ?_
      refine rd_yes rfl rfl (ov_load rfl (TR.cnt api_Program.t a1) (TR.agg api_Program.t a1)) ?_
      obtain ⟨b3, a9, a0⟩ := law16_Case.g_Regs r0
      refine rd_yes rfl rfl (ov_faddr rfl a9) ?_
      refine rd_yes rfl rfl (ov_load rfl (TR.cnt (tSl (tSl tU32)) a0) (TR.agg (tSl (tSl tU32)) a0)) ?_
      have b0 := f123_ok  a1 a0 
      refine rd_ycall rfl rfl (cv_fn rfl rfl (clL_cons (TR.clo api_Program.t a1) (clL_cons (TR.clo (tSl (tSl tU32)) a0) clL_nil)) b0) ?_
      refine rd_yes rfl rfl (ov_bin rfl rfl i_eql) ?_
      exact gK rfl rfl rfl rfl rfl k
  refine mV rfl ?_
  refine nS ?_
  exact rR hres rfl rfl rfl

theorem f34_ok : FnR Tryz.prog 34 [] (vb law16_awake) := run34

def RF185 (res : (List Bool)) (r : PV) : Prop := (tSl tB).R res r
theorem env_join_bool_L1_ok {S : List Fr} {res : (List Bool)} {x0 : List (List Bool)} {v0 : PV} (r0 : (tSl (tSl tB)).R x0 v0) (hb : ∀ l ∈ x0, l.length ≤ 1048576) (hc : x0.length ≤ 1) {K0 : (List Bool) → (List Bool)}
    (c3 : ∀ {a1 : List Bool} {a0 : List PV} {a2 : PV} (a4 : All2 tB.R a1 a0) (a6 : isL a2 = true) (a3 : Wri a2 a0) (a5 : a1.length ≤ 4611686018427387904) {h : Heap} (M0 : Mem h [⟨a2, 4, 1, a0⟩]), K0 a1 = res → PX Tryz.prog 0 S (QR Tryz.prog [(2, none)] (RF185 res)) [(3, a2)] h) :
    ∀ {m : Nat} {a7 : Int} {a1 : List Bool} {a0 : List PV} {a2 : PV} (a4 : All2 tB.R a1 a0) (a6 : isL a2 = true) (a3 : Wri a2 a0) (a5 : a1.length ≤ 4611686018427387904) (c1 : m = Int.toNat ((x0.length : Int) - a7)) (b2 : 0 ≤ a7) (b0 : (a1.length : Int) ≤ 1048576 * a7) {h : Heap} (M0 : Mem h [⟨a2, 4, 1, a0⟩]), env_join_bool_L1 x0 K0 m a7 a1 = res → RC Tryz.prog (.loop ac185_L1) S (QR Tryz.prog [(2, none)] (RF185 res)) [(8, vi a7), (7, vi (x0.length : Int)), (6, v0), (3, a2)] h := by
  have hb' := hb
  try simp only [qa, qaD] at hb'
  have hc' := hc
  try simp only [qa, qaD] at hc'
  intro m
  induction m with
  | zero =>
    intro a7 a1 a0 a2 a4 a6 a3 a5 c1 b2 b0 h M0 hres
    rw [env_join_bool_L1] at hres
    refine rc_loop ?_
    refine sR ?_
    refine bN i_lss rfl rfl ?_
    refine nS ?_
    refine rc_seq ?_
    refine rc_cond rfl ?_ ?_ <;> intro c <;> try simp only [qa, qaD] at c
    · omega
    refine rc_exit ?_
    refine px_seq ?_
    refine px_again ?_
    exact wP (c3 a4 a6 a3 a5 (Mem.sub M0 (.cons_cons _ .slnil)) hres) rfl
  | succ m ih =>
    intro a7 a1 a0 a2 a4 a6 a3 a5 c1 b2 b0 h M0 hres
    rw [env_join_bool_L1] at hres
    refine rc_loop ?_
    refine sR ?_
    refine bN i_lss rfl rfl ?_
    refine nS ?_
    refine rc_seq ?_
    refine rc_cond rfl ?_ ?_ <;> intro c <;> try simp only [qa, qaD] at c
    rotate_left
    · omega
    refine rc_skip ?_
    refine pn_seq ?_
    refine rc_seq ?_
    refine rc_block ?_
    refine sR ?_
    obtain ⟨c4, c0, b3⟩ := sl_idx (i := a7) r0 (by omega) (by omega)
    refine rd_op (ov_iaddr rfl rfl c0) ?_
    refine lD b3 rfl rfl rfl ?_
    refine mV rfl ?_
    refine nS ?_
    refine rc_region ?_
    refine mV rfl ?_
    refine mV rfl ?_
    obtain ⟨a8, b7, a9⟩ := src_of (t := tB) (h := h) b3
    have b1 : fits (a0.length + a8.length) 1 = true := by rw [All2.length_eq a4, All2.length_eq a9]; (try simp only [List.length_cons, List.length_nil]); exact fits_of (by (have hk := jn_ix hb (i := a7) (by omega) (by omega); omega)) (by (have hk := jn_ix hb (i := a7) (by omega) (by omega); omega))
    refine rd_appW (k := 0) (es := a0) (news := a8) M0 rfl rfl rfl a6 a3 b7 b1 (fun c5 c2 b9 b4 b8 => ?_)
    have b6 : All2 tB.R (a1 ++ (ix x0 a7)) (a0 ++ a8) := All2.app a4 a9
    have b5 : (a1 ++ (ix x0 a7)).length ≤ 4611686018427387904 := by rw [← All2.length_eq b6, List.length_append]; exact fits_len b1
    refine mV rfl ?_
    refine rd_nil ?_
    refine pn_blk ?_
    refine pn_seq ?_
    refine rc_region ?_
    refine bN i_add rfl rfl ?_
    refine mV rfl ?_
    refine rd_nil ?_
    refine pn_again ?_
    have hbd := sl_bound r0
    have hinc : wr (a7 + 1) = a7 + 1 := wr_of (by omega) (by omega)
    erw [hinc]
    exact wC (ih  b6 b9 b4 b5 (by omega) (by omega) (by (have hk := jn_ix hb (i := a7) (by omega) (by omega); simp only [List.length_append]; omega)) (Mem.sub b8 (.cons_cons _ .slnil)) hres) rfl

theorem f185_ok {x0 : List (List Bool)} {v0 : PV} (r0 : (tSl (tSl tB)).R x0 v0) (hb : ∀ l ∈ x0, l.length ≤ 1048576) (hc : x0.length ≤ 1) : ∃ r, FnR Tryz.prog 185 [v0] r ∧ (tSl tB).R (env_join_bool x0) r := by
  refine fnT (R := RF185) text185 rfl fun res hres => ?_
  unfold env_join_bool at hres
  refine sR ?_
  refine rd_op (v := nilS) (ov_move rfl) ?_
  refine nR ?_
  refine rd_op (v := nilS) (ov_move rfl) ?_
  refine nS ?_
  refine rc_seq ?_
  refine sR ?_
  refine mV rfl ?_
  refine rd_op (ov_bi rfl (sl_len r0 Tryz.underlying213 _)) ?_
  refine mI rfl ?_
  refine nS ?_
  refine rc_block ?_
  have b0 := mem_acc (sz := 1) (es := []) (Mem.nil ⟨0, []⟩) 4 (.inl ⟨none, rfl, rfl⟩) (by simp)
  refine wC (env_join_bool_L1_ok r0 hb hc ?_  aL rfl (.inl rfl) (by first | decide | simp) rfl (by omega) (by simp) (Mem.sub b0 (.cons_cons _ .slnil)) hres) rfl
  · intro a3 a4 a6 a2 a1 a5 a0 b1 a9 hres
    refine px_blk ?_
    refine pn_seq ?_
    refine sR ?_
    refine mV rfl ?_
    refine mV rfl ?_
    refine nS ?_
    obtain ⟨b2, a8, a7⟩ := own_sl (P := Tryz.prog) (k := 0) (t := tB) a9 rfl a1 a2 (Nat.le_trans a0 (by decide))
    subst hres
    exact rc_retV (.tmp rfl .nil) a8 a7
def RF185x (R_ : List Ent) (res : (List Bool)) (r : PV) (h : Heap) : Prop := ∃ asR0_ : PV, ∃ esR0_ : List PV, Mem h (⟨asR0_, 4, 1, esR0_⟩ :: R_) ∧ (All2 tB.R res esR0_) ∧ (isL asR0_ = true) ∧ (res.length ≤ 4611686018427387904) ∧ (Wri asR0_ esR0_) ∧ r = asR0_
theorem env_join_bool_L1x_ok {S : List Fr} {res : (List Bool)} {x0 : List (List Bool)} {v0 : PV} {R_ : List Ent} (r0 : (tSl (tSl tB)).R x0 v0) (hb : ∀ l ∈ x0, l.length ≤ 1048576) (hc : x0.length ≤ 1) {K0 : (List Bool) → (List Bool)}
    (c3 : ∀ {a1 : List Bool} {a0 : List PV} {a2 : PV} (a4 : All2 tB.R a1 a0) (a6 : isL a2 = true) (a3 : Wri a2 a0) (a5 : a1.length ≤ 4611686018427387904) {h : Heap} (M0 : Mem h (⟨a2, 4, 1, a0⟩ :: R_)), K0 a1 = res → PX Tryz.prog 0 S (retPost Tryz.prog [(2, none)] (RF185x R_ res)) [(3, a2)] h) :
    ∀ {m : Nat} {a7 : Int} {a1 : List Bool} {a0 : List PV} {a2 : PV} (a4 : All2 tB.R a1 a0) (a6 : isL a2 = true) (a3 : Wri a2 a0) (a5 : a1.length ≤ 4611686018427387904) (c1 : m = Int.toNat ((x0.length : Int) - a7)) (b2 : 0 ≤ a7) (b0 : (a1.length : Int) ≤ 1048576 * a7) {h : Heap} (M0 : Mem h (⟨a2, 4, 1, a0⟩ :: R_)), env_join_bool_L1 x0 K0 m a7 a1 = res → RC Tryz.prog (.loop ac185_L1) S (retPost Tryz.prog [(2, none)] (RF185x R_ res)) [(8, vi a7), (7, vi (x0.length : Int)), (6, v0), (3, a2)] h := by
  have hb' := hb
  try simp only [qa, qaD] at hb'
  have hc' := hc
  try simp only [qa, qaD] at hc'
  intro m
  induction m with
  | zero =>
    intro a7 a1 a0 a2 a4 a6 a3 a5 c1 b2 b0 h M0 hres
    rw [env_join_bool_L1] at hres
    refine rc_loop ?_
    refine sR ?_
    refine bN i_lss rfl rfl ?_
    refine nS ?_
    refine rc_seq ?_
    refine rc_cond rfl ?_ ?_ <;> intro c <;> try simp only [qa, qaD] at c
    · omega
    refine rc_exit ?_
    refine px_seq ?_
    refine px_again ?_
    exact wP (c3 a4 a6 a3 a5 (Mem.sub M0 (.cons_cons _ (List.Sublist.refl R_))) hres) rfl
  | succ m ih =>
    intro a7 a1 a0 a2 a4 a6 a3 a5 c1 b2 b0 h M0 hres
    rw [env_join_bool_L1] at hres
    refine rc_loop ?_
    refine sR ?_
    refine bN i_lss rfl rfl ?_
    refine nS ?_
    refine rc_seq ?_
    refine rc_cond rfl ?_ ?_ <;> intro c <;> try simp only [qa, qaD] at c
    rotate_left
    · omega
    refine rc_skip ?_
    refine pn_seq ?_
    refine rc_seq ?_
    refine rc_block ?_
    refine sR ?_
    obtain ⟨c4, c0, b3⟩ := sl_idx (i := a7) r0 (by omega) (by omega)
    refine rd_op (ov_iaddr rfl rfl c0) ?_
    refine lD b3 rfl rfl rfl ?_
    refine mV rfl ?_
    refine nS ?_
    refine rc_region ?_
    refine mV rfl ?_
    refine mV rfl ?_
    obtain ⟨a8, b7, a9⟩ := src_of (t := tB) (h := h) b3
    have b1 : fits (a0.length + a8.length) 1 = true := by rw [All2.length_eq a4, All2.length_eq a9]; (try simp only [List.length_cons, List.length_nil]); exact fits_of (by (have hk := jn_ix hb (i := a7) (by omega) (by omega); omega)) (by (have hk := jn_ix hb (i := a7) (by omega) (by omega); omega))
    refine rd_appW (k := 0) (es := a0) (news := a8) M0 rfl rfl rfl a6 a3 b7 b1 (fun c5 c2 b9 b4 b8 => ?_)
    have b6 : All2 tB.R (a1 ++ (ix x0 a7)) (a0 ++ a8) := All2.app a4 a9
    have b5 : (a1 ++ (ix x0 a7)).length ≤ 4611686018427387904 := by rw [← All2.length_eq b6, List.length_append]; exact fits_len b1
    refine mV rfl ?_
    refine rd_nil ?_
    refine pn_blk ?_
    refine pn_seq ?_
    refine rc_region ?_
    refine bN i_add rfl rfl ?_
    refine mV rfl ?_
    refine rd_nil ?_
    refine pn_again ?_
    have hbd := sl_bound r0
    have hinc : wr (a7 + 1) = a7 + 1 := wr_of (by omega) (by omega)
    erw [hinc]
    exact wC (ih  b6 b9 b4 b5 (by omega) (by omega) (by (have hk := jn_ix hb (i := a7) (by omega) (by omega); simp only [List.length_append]; omega)) (Mem.sub b8 (.cons_cons _ (List.Sublist.refl R_))) hres) rfl

theorem f185x_ok {x0 : List (List Bool)} {v0 : PV} {R_ : List Ent} {h_ : Heap} (r0 : (tSl (tSl tB)).R x0 v0) (M_ : Mem h_ (R_)) (hb : ∀ l ∈ x0, l.length ≤ 1048576) (hc : x0.length ≤ 1) : ∃ r b1, FnX Tryz.prog 185 [v0] h_ r b1 ∧ RF185x R_ (env_join_bool x0) r b1 := by
  obtain ⟨res, hres⟩ : ∃ res, env_join_bool x0 = res := ⟨_, rfl⟩
  suffices H : RC Tryz.prog ac185 [] (retPost Tryz.prog [(2, none)] (RF185x R_ res)) (argE 0 [v0]) h_ by
    rw [hres]
    exact fnX text185 (by simp) H
  unfold env_join_bool at hres
  refine sR ?_
  refine rd_op (v := nilS) (ov_move rfl) ?_
  refine nR ?_
  refine rd_op (v := nilS) (ov_move rfl) ?_
  refine nS ?_
  refine rc_seq ?_
  refine sR ?_
  refine mV rfl ?_
  refine rd_op (ov_bi rfl (sl_len r0 Tryz.underlying213 _)) ?_
  refine mI rfl ?_
  refine nS ?_
  refine rc_block ?_
  have b0 := mem_acc (sz := 1) (es := []) M_ 4 (.inl ⟨none, rfl, rfl⟩) (by simp)
  refine wC (env_join_bool_L1x_ok r0 hb hc ?_  aL rfl (.inl rfl) (by first | decide | simp) rfl (by omega) (by simp) (Mem.sub b0 (.cons_cons _ (List.Sublist.refl R_))) hres) rfl
  · intro a6 a0 a1 a5 a4 a3 a2 a8 a9 hres
    refine px_blk ?_
    refine pn_seq ?_
    refine sR ?_
    refine mV rfl ?_
    refine mV rfl ?_
    refine nS ?_
    have a7 : Mem a8 (⟨a1, 4, 1, a0⟩ :: R_) := (Mem.front (k := 0) a9 rfl)
    subst hres
    exact rc_retX (.tmp rfl .nil) ⟨a1, a0, Mem.sub a7 (.cons_cons _ (List.Sublist.refl R_)), a5, a4, a2, a3, rfl⟩

def RF186 (res : (List (BitVec 32))) (r : PV) : Prop := (tSl tU32).R res r
theorem env_join_uint32_L1_ok {S : List Fr} {res : (List (BitVec 32))} {x0 : List (List (BitVec 32))} {v0 : PV} (r0 : (tSl (tSl tU32)).R x0 v0) (hb : ∀ l ∈ x0, l.length ≤ 1048576) (hc : x0.length ≤ 1) {K0 : (List (BitVec 32)) → (List (BitVec 32))}
    (c3 : ∀ {a1 : List (BitVec 32)} {a0 : List PV} {a2 : PV} (a4 : All2 tU32.R a1 a0) (a6 : isL a2 = true) (a3 : Wri a2 a0) (a5 : a1.length ≤ 4611686018427387904) {h : Heap} (M0 : Mem h [⟨a2, 89, 1, a0⟩]), K0 a1 = res → PX Tryz.prog 0 S (QR Tryz.prog [(2, none)] (RF186 res)) [(3, a2)] h) :
    ∀ {m : Nat} {a7 : Int} {a1 : List (BitVec 32)} {a0 : List PV} {a2 : PV} (a4 : All2 tU32.R a1 a0) (a6 : isL a2 = true) (a3 : Wri a2 a0) (a5 : a1.length ≤ 4611686018427387904) (c1 : m = Int.toNat ((x0.length : Int) - a7)) (b2 : 0 ≤ a7) (b0 : (a1.length : Int) ≤ 1048576 * a7) {h : Heap} (M0 : Mem h [⟨a2, 89, 1, a0⟩]), env_join_uint32_L1 x0 K0 m a7 a1 = res → RC Tryz.prog (.loop ac186_L1) S (QR Tryz.prog [(2, none)] (RF186 res)) [(8, vi a7), (7, vi (x0.length : Int)), (6, v0), (3, a2)] h := by
  have hb' := hb
  try simp only [qa, qaD] at hb'
  have hc' := hc
  try simp only [qa, qaD] at hc'
  intro m
  induction m with
  | zero =>
    intro a7 a1 a0 a2 a4 a6 a3 a5 c1 b2 b0 h M0 hres
    rw [env_join_uint32_L1] at hres
    refine rc_loop ?_
    refine sR ?_
    refine bN i_lss rfl rfl ?_
    refine nS ?_
    refine rc_seq ?_
    refine rc_cond rfl ?_ ?_ <;> intro c <;> try simp only [qa, qaD] at c
    · omega
    refine rc_exit ?_
    refine px_seq ?_
    refine px_again ?_
    exact wP (c3 a4 a6 a3 a5 (Mem.sub M0 (.cons_cons _ .slnil)) hres) rfl
  | succ m ih =>
    intro a7 a1 a0 a2 a4 a6 a3 a5 c1 b2 b0 h M0 hres
    rw [env_join_uint32_L1] at hres
    refine rc_loop ?_
    refine sR ?_
    refine bN i_lss rfl rfl ?_
    refine nS ?_
    refine rc_seq ?_
    refine rc_cond rfl ?_ ?_ <;> intro c <;> try simp only [qa, qaD] at c
    rotate_left
    · omega
    refine rc_skip ?_
    refine pn_seq ?_
    refine rc_seq ?_
    refine rc_block ?_
    refine sR ?_
    obtain ⟨c4, c0, b3⟩ := sl_idx (i := a7) r0 (by omega) (by omega)
    refine rd_op (ov_iaddr rfl rfl c0) ?_
    refine lD b3 rfl rfl rfl ?_
    refine mV rfl ?_
    refine nS ?_
    refine rc_region ?_
    refine mV rfl ?_
    refine mV rfl ?_
    obtain ⟨a8, b7, a9⟩ := src_of (t := tU32) (h := h) b3
    have b1 : fits (a0.length + a8.length) 4 = true := by rw [All2.length_eq a4, All2.length_eq a9]; (try simp only [List.length_cons, List.length_nil]); exact fits_of (by (have hk := jn_ix hb (i := a7) (by omega) (by omega); omega)) (by (have hk := jn_ix hb (i := a7) (by omega) (by omega); omega))
    refine rd_appW (k := 0) (es := a0) (news := a8) M0 rfl rfl rfl a6 a3 b7 b1 (fun c5 c2 b9 b4 b8 => ?_)
    have b6 : All2 tU32.R (a1 ++ (ix x0 a7)) (a0 ++ a8) := All2.app a4 a9
    have b5 : (a1 ++ (ix x0 a7)).length ≤ 4611686018427387904 := by rw [← All2.length_eq b6, List.length_append]; exact fits_len b1
    refine mV rfl ?_
    refine rd_nil ?_
    refine pn_blk ?_
    refine pn_seq ?_
    refine rc_region ?_
    refine bN i_add rfl rfl ?_
    refine mV rfl ?_
    refine rd_nil ?_
    refine pn_again ?_
    have hbd := sl_bound r0
    have hinc : wr (a7 + 1) = a7 + 1 := wr_of (by omega) (by omega)
    erw [hinc]
    exact wC (ih  b6 b9 b4 b5 (by omega) (by omega) (by (have hk := jn_ix hb (i := a7) (by omega) (by omega); simp only [List.length_append]; omega)) (Mem.sub b8 (.cons_cons _ .slnil)) hres) rfl

theorem f186_ok {x0 : List (List (BitVec 32))} {v0 : PV} (r0 : (tSl (tSl tU32)).R x0 v0) (hb : ∀ l ∈ x0, l.length ≤ 1048576) (hc : x0.length ≤ 1) : ∃ r, FnR Tryz.prog 186 [v0] r ∧ (tSl tU32).R (env_join_uint32 x0) r := by
  refine fnT (R := RF186) text186 rfl fun res hres => ?_
  unfold env_join_uint32 at hres
  refine sR ?_
  refine rd_op (v := nilS) (ov_move rfl) ?_
  refine nR ?_
  refine rd_op (v := nilS) (ov_move rfl) ?_
  refine nS ?_
  refine rc_seq ?_
  refine sR ?_
  refine mV rfl ?_
  refine rd_op (ov_bi rfl (sl_len r0 Tryz.underlying42 _)) ?_
  refine mI rfl ?_
  refine nS ?_
  refine rc_block ?_
  have b0 := mem_acc (sz := 1) (es := []) (Mem.nil ⟨0, []⟩) 89 (.inl ⟨none, rfl, rfl⟩) (by simp)
  refine wC (env_join_uint32_L1_ok r0 hb hc ?_  aL rfl (.inl rfl) (by first | decide | simp) rfl (by omega) (by simp) (Mem.sub b0 (.cons_cons _ .slnil)) hres) rfl
  · intro a3 a4 a6 a2 a1 a5 a0 b1 a9 hres
    refine px_blk ?_
    refine pn_seq ?_
    refine sR ?_
    refine mV rfl ?_
    refine mV rfl ?_
    refine nS ?_
    obtain ⟨b2, a8, a7⟩ := own_sl (P := Tryz.prog) (k := 0) (t := tU32) a9 rfl a1 a2 (Nat.le_trans a0 (by decide))
    subst hres
    exact rc_retV (.tmp rfl .nil) a8 a7
def RF186x (R_ : List Ent) (res : (List (BitVec 32))) (r : PV) (h : Heap) : Prop := ∃ asR0_ : PV, ∃ esR0_ : List PV, Mem h (⟨asR0_, 89, 1, esR0_⟩ :: R_) ∧ (All2 tU32.R res esR0_) ∧ (isL asR0_ = true) ∧ (res.length ≤ 4611686018427387904) ∧ (Wri asR0_ esR0_) ∧ r = asR0_
theorem env_join_uint32_L1x_ok {S : List Fr} {res : (List (BitVec 32))} {x0 : List (List (BitVec 32))} {v0 : PV} {R_ : List Ent} (r0 : (tSl (tSl tU32)).R x0 v0) (hb : ∀ l ∈ x0, l.length ≤ 1048576) (hc : x0.length ≤ 1) {K0 : (List (BitVec 32)) → (List (BitVec 32))}
    (c3 : ∀ {a1 : List (BitVec 32)} {a0 : List PV} {a2 : PV} (a4 : All2 tU32.R a1 a0) (a6 : isL a2 = true) (a3 : Wri a2 a0) (a5 : a1.length ≤ 4611686018427387904) {h : Heap} (M0 : Mem h (⟨a2, 89, 1, a0⟩ :: R_)), K0 a1 = res → PX Tryz.prog 0 S (retPost Tryz.prog [(2, none)] (RF186x R_ res)) [(3, a2)] h) :
    ∀ {m : Nat} {a7 : Int} {a1 : List (BitVec 32)} {a0 : List PV} {a2 : PV} (a4 : All2 tU32.R a1 a0) (a6 : isL a2 = true) (a3 : Wri a2 a0) (a5 : a1.length ≤ 4611686018427387904) (c1 : m = Int.toNat ((x0.length : Int) - a7)) (b2 : 0 ≤ a7) (b0 : (a1.length : Int) ≤ 1048576 * a7) {h : Heap} (M0 : Mem h (⟨a2, 89, 1, a0⟩ :: R_)), env_join_uint32_L1 x0 K0 m a7 a1 = res → RC Tryz.prog (.loop ac186_L1) S (retPost Tryz.prog [(2, none)] (RF186x R_ res)) [(8, vi a7), (7, vi (x0.length : Int)), (6, v0), (3, a2)] h := by
  have hb' := hb
  try simp only [qa, qaD] at hb'
  have hc' := hc
  try simp only [qa, qaD] at hc'
  intro m
  induction m with
  | zero =>
    intro a7 a1 a0 a2 a4 a6 a3 a5 c1 b2 b0 h M0 hres
    rw [env_join_uint32_L1] at hres
    refine rc_loop ?_
    refine sR ?_
    refine bN i_lss rfl rfl ?_
    refine nS ?_
    refine rc_seq ?_
    refine rc_cond rfl ?_ ?_ <;> intro c <;> try simp only [qa, qaD] at c
    · omega
    refine rc_exit ?_
    refine px_seq ?_
    refine px_again ?_
    exact wP (c3 a4 a6 a3 a5 (Mem.sub M0 (.cons_cons _ (List.Sublist.refl R_))) hres) rfl
  | succ m ih =>
    intro a7 a1 a0 a2 a4 a6 a3 a5 c1 b2 b0 h M0 hres
    rw [env_join_uint32_L1] at hres
    refine rc_loop ?_
    refine sR ?_
    refine bN i_lss rfl rfl ?_
    refine nS ?_
    refine rc_seq ?_
    refine rc_cond rfl ?_ ?_ <;> intro c <;> try simp only [qa, qaD] at c
    rotate_left
    · omega
    refine rc_skip ?_
    refine pn_seq ?_
    refine rc_seq ?_
    refine rc_block ?_
    refine sR ?_
    obtain ⟨c4, c0, b3⟩ := sl_idx (i := a7) r0 (by omega) (by omega)
    refine rd_op (ov_iaddr rfl rfl c0) ?_
    refine lD b3 rfl rfl rfl ?_
    refine mV rfl ?_
    refine nS ?_
    refine rc_region ?_
    refine mV rfl ?_
    refine mV rfl ?_
    obtain ⟨a8, b7, a9⟩ := src_of (t := tU32) (h := h) b3
    have b1 : fits (a0.length + a8.length) 4 = true := by rw [All2.length_eq a4, All2.length_eq a9]; (try simp only [List.length_cons, List.length_nil]); exact fits_of (by (have hk := jn_ix hb (i := a7) (by omega) (by omega); omega)) (by (have hk := jn_ix hb (i := a7) (by omega) (by omega); omega))
    refine rd_appW (k := 0) (es := a0) (news := a8) M0 rfl rfl rfl a6 a3 b7 b1 (fun c5 c2 b9 b4 b8 => ?_)
    have b6 : All2 tU32.R (a1 ++ (ix x0 a7)) (a0 ++ a8) := All2.app a4 a9
    have b5 : (a1 ++ (ix x0 a7)).length ≤ 4611686018427387904 := by rw [← All2.length_eq b6, List.length_append]; exact fits_len b1
    refine mV rfl ?_
    refine rd_nil ?_
    refine pn_blk ?_
    refine pn_seq ?_
    refine rc_region ?_
    refine bN i_add rfl rfl ?_
    refine mV rfl ?_
    refine rd_nil ?_
    refine pn_again ?_
    have hbd := sl_bound r0
    have hinc : wr (a7 + 1) = a7 + 1 := wr_of (by omega) (by omega)
    erw [hinc]
    exact wC (ih  b6 b9 b4 b5 (by omega) (by omega) (by (have hk := jn_ix hb (i := a7) (by omega) (by omega); simp only [List.length_append]; omega)) (Mem.sub b8 (.cons_cons _ (List.Sublist.refl R_))) hres) rfl

theorem f186x_ok {x0 : List (List (BitVec 32))} {v0 : PV} {R_ : List Ent} {h_ : Heap} (r0 : (tSl (tSl tU32)).R x0 v0) (M_ : Mem h_ (R_)) (hb : ∀ l ∈ x0, l.length ≤ 1048576) (hc : x0.length ≤ 1) : ∃ r b1, FnX Tryz.prog 186 [v0] h_ r b1 ∧ RF186x R_ (env_join_uint32 x0) r b1 := by
  obtain ⟨res, hres⟩ : ∃ res, env_join_uint32 x0 = res := ⟨_, rfl⟩
  suffices H : RC Tryz.prog ac186 [] (retPost Tryz.prog [(2, none)] (RF186x R_ res)) (argE 0 [v0]) h_ by
    rw [hres]
    exact fnX text186 (by simp) H
  unfold env_join_uint32 at hres
  refine sR ?_
  refine rd_op (v := nilS) (ov_move rfl) ?_
  refine nR ?_
  refine rd_op (v := nilS) (ov_move rfl) ?_
  refine nS ?_
  refine rc_seq ?_
  refine sR ?_
  refine mV rfl ?_
  refine rd_op (ov_bi rfl (sl_len r0 Tryz.underlying42 _)) ?_
  refine mI rfl ?_
  refine nS ?_
  refine rc_block ?_
  have b0 := mem_acc (sz := 1) (es := []) M_ 89 (.inl ⟨none, rfl, rfl⟩) (by simp)
  refine wC (env_join_uint32_L1x_ok r0 hb hc ?_  aL rfl (.inl rfl) (by first | decide | simp) rfl (by omega) (by simp) (Mem.sub b0 (.cons_cons _ (List.Sublist.refl R_))) hres) rfl
  · intro a6 a0 a1 a5 a4 a3 a2 a8 a9 hres
    refine px_blk ?_
    refine pn_seq ?_
    refine sR ?_
    refine mV rfl ?_
    refine mV rfl ?_
    refine nS ?_
    have a7 : Mem a8 (⟨a1, 89, 1, a0⟩ :: R_) := (Mem.front (k := 0) a9 rfl)
    subst hres
    exact rc_retX (.tmp rfl .nil) ⟨a1, a0, Mem.sub a7 (.cons_cons _ (List.Sublist.refl R_)), a5, a4, a2, a3, rfl⟩

def RF187 (res : (List UInt8)) (r : PV) : Prop := (tSl tU8).R res r
theorem env_join_byte_L1_ok {S : List Fr} {res : (List UInt8)} {x0 : List (List UInt8)} {v0 : PV} (r0 : (tSl (tSl tU8)).R x0 v0) (hb : ∀ l ∈ x0, l.length ≤ 1048576) (hc : x0.length ≤ 1) {K0 : (List UInt8) → (List UInt8)}
    (c3 : ∀ {a1 : List UInt8} {a0 : List PV} {a2 : PV} (a4 : All2 tU8.R a1 a0) (a6 : isL a2 = true) (a3 : Wri a2 a0) (a5 : a1.length ≤ 4611686018427387904) {h : Heap} (M0 : Mem h [⟨a2, 5, 1, a0⟩]), K0 a1 = res → PX Tryz.prog 0 S (QR Tryz.prog [(2, none)] (RF187 res)) [(3, a2)] h) :
    ∀ {m : Nat} {a7 : Int} {a1 : List UInt8} {a0 : List PV} {a2 : PV} (a4 : All2 tU8.R a1 a0) (a6 : isL a2 = true) (a3 : Wri a2 a0) (a5 : a1.length ≤ 4611686018427387904) (c1 : m = Int.toNat ((x0.length : Int) - a7)) (b2 : 0 ≤ a7) (b0 : (a1.length : Int) ≤ 1048576 * a7) {h : Heap} (M0 : Mem h [⟨a2, 5, 1, a0⟩]), env_join_byte_L1 x0 K0 m a7 a1 = res → RC Tryz.prog (.loop ac187_L1) S (QR Tryz.prog [(2, none)] (RF187 res)) [(8, vi a7), (7, vi (x0.length : Int)), (6, v0), (3, a2)] h := by
  have hb' := hb
  try simp only [qa, qaD] at hb'
  have hc' := hc
  try simp only [qa, qaD] at hc'
  intro m
  induction m with
  | zero =>
    intro a7 a1 a0 a2 a4 a6 a3 a5 c1 b2 b0 h M0 hres
    rw [env_join_byte_L1] at hres
    refine rc_loop ?_
    refine sR ?_
    refine bN i_lss rfl rfl ?_
    refine nS ?_
    refine rc_seq ?_
    refine rc_cond rfl ?_ ?_ <;> intro c <;> try simp only [qa, qaD] at c
    · omega
    refine rc_exit ?_
    refine px_seq ?_
    refine px_again ?_
    exact wP (c3 a4 a6 a3 a5 (Mem.sub M0 (.cons_cons _ .slnil)) hres) rfl
  | succ m ih =>
    intro a7 a1 a0 a2 a4 a6 a3 a5 c1 b2 b0 h M0 hres
    rw [env_join_byte_L1] at hres
    refine rc_loop ?_
    refine sR ?_
    refine bN i_lss rfl rfl ?_
    refine nS ?_
    refine rc_seq ?_
    refine rc_cond rfl ?_ ?_ <;> intro c <;> try simp only [qa, qaD] at c
    rotate_left
    · omega
    refine rc_skip ?_
    refine pn_seq ?_
    refine rc_seq ?_
    refine rc_block ?_
    refine sR ?_
    obtain ⟨c4, c0, b3⟩ := sl_idx (i := a7) r0 (by omega) (by omega)
    refine rd_op (ov_iaddr rfl rfl c0) ?_
    refine lD b3 rfl rfl rfl ?_
    refine mV rfl ?_
    refine nS ?_
    refine rc_region ?_
    refine mV rfl ?_
    refine mV rfl ?_
    obtain ⟨a8, b7, a9⟩ := src_of (t := tU8) (h := h) b3
    have b1 : fits (a0.length + a8.length) 1 = true := by rw [All2.length_eq a4, All2.length_eq a9]; (try simp only [List.length_cons, List.length_nil]); exact fits_of (by (have hk := jn_ix hb (i := a7) (by omega) (by omega); omega)) (by (have hk := jn_ix hb (i := a7) (by omega) (by omega); omega))
    refine rd_appW (k := 0) (es := a0) (news := a8) M0 rfl rfl rfl a6 a3 b7 b1 (fun c5 c2 b9 b4 b8 => ?_)
    have b6 : All2 tU8.R (a1 ++ (ix x0 a7)) (a0 ++ a8) := All2.app a4 a9
    have b5 : (a1 ++ (ix x0 a7)).length ≤ 4611686018427387904 := by rw [← All2.length_eq b6, List.length_append]; exact fits_len b1
    refine mV rfl ?_
    refine rd_nil ?_
    refine pn_blk ?_
    refine pn_seq ?_
    refine rc_region ?_
    refine bN i_add rfl rfl ?_
    refine mV rfl ?_
    refine rd_nil ?_
    refine pn_again ?_
    have hbd := sl_bound r0
    have hinc : wr (a7 + 1) = a7 + 1 := wr_of (by omega) (by omega)
    erw [hinc]
    exact wC (ih  b6 b9 b4 b5 (by omega) (by omega) (by (have hk := jn_ix hb (i := a7) (by omega) (by omega); simp only [List.length_append]; omega)) (Mem.sub b8 (.cons_cons _ .slnil)) hres) rfl

theorem f187_ok {x0 : List (List UInt8)} {v0 : PV} (r0 : (tSl (tSl tU8)).R x0 v0) (hb : ∀ l ∈ x0, l.length ≤ 1048576) (hc : x0.length ≤ 1) : ∃ r, FnR Tryz.prog 187 [v0] r ∧ (tSl tU8).R (env_join_byte x0) r := by
  refine fnT (R := RF187) text187 rfl fun res hres => ?_
  unfold env_join_byte at hres
  refine sR ?_
  refine rd_op (v := nilS) (ov_move rfl) ?_
  refine nR ?_
  refine rd_op (v := nilS) (ov_move rfl) ?_
  refine nS ?_
  refine rc_seq ?_
  refine sR ?_
  refine mV rfl ?_
  refine rd_op (ov_bi rfl (sl_len r0 Tryz.underlying259 _)) ?_
  refine mI rfl ?_
  refine nS ?_
  refine rc_block ?_
  have b0 := mem_acc (sz := 1) (es := []) (Mem.nil ⟨0, []⟩) 5 (.inl ⟨none, rfl, rfl⟩) (by simp)
  refine wC (env_join_byte_L1_ok r0 hb hc ?_  aL rfl (.inl rfl) (by first | decide | simp) rfl (by omega) (by simp) (Mem.sub b0 (.cons_cons _ .slnil)) hres) rfl
  · intro a3 a4 a6 a2 a1 a5 a0 b1 a9 hres
    refine px_blk ?_
    refine pn_seq ?_
    refine sR ?_
    refine mV rfl ?_
    refine mV rfl ?_
    refine nS ?_
    obtain ⟨b2, a8, a7⟩ := own_sl (P := Tryz.prog) (k := 0) (t := tU8) a9 rfl a1 a2 (Nat.le_trans a0 (by decide))
    subst hres
    exact rc_retV (.tmp rfl .nil) a8 a7
def RF187x (R_ : List Ent) (res : (List UInt8)) (r : PV) (h : Heap) : Prop := ∃ asR0_ : PV, ∃ esR0_ : List PV, Mem h (⟨asR0_, 5, 1, esR0_⟩ :: R_) ∧ (All2 tU8.R res esR0_) ∧ (isL asR0_ = true) ∧ (res.length ≤ 4611686018427387904) ∧ (Wri asR0_ esR0_) ∧ r = asR0_
theorem env_join_byte_L1x_ok {S : List Fr} {res : (List UInt8)} {x0 : List (List UInt8)} {v0 : PV} {R_ : List Ent} (r0 : (tSl (tSl tU8)).R x0 v0) (hb : ∀ l ∈ x0, l.length ≤ 1048576) (hc : x0.length ≤ 1) {K0 : (List UInt8) → (List UInt8)}
    (c3 : ∀ {a1 : List UInt8} {a0 : List PV} {a2 : PV} (a4 : All2 tU8.R a1 a0) (a6 : isL a2 = true) (a3 : Wri a2 a0) (a5 : a1.length ≤ 4611686018427387904) {h : Heap} (M0 : Mem h (⟨a2, 5, 1, a0⟩ :: R_)), K0 a1 = res → PX Tryz.prog 0 S (retPost Tryz.prog [(2, none)] (RF187x R_ res)) [(3, a2)] h) :
    ∀ {m : Nat} {a7 : Int} {a1 : List UInt8} {a0 : List PV} {a2 : PV} (a4 : All2 tU8.R a1 a0) (a6 : isL a2 = true) (a3 : Wri a2 a0) (a5 : a1.length ≤ 4611686018427387904) (c1 : m = Int.toNat ((x0.length : Int) - a7)) (b2 : 0 ≤ a7) (b0 : (a1.length : Int) ≤ 1048576 * a7) {h : Heap} (M0 : Mem h (⟨a2, 5, 1, a0⟩ :: R_)), env_join_byte_L1 x0 K0 m a7 a1 = res → RC Tryz.prog (.loop ac187_L1) S (retPost Tryz.prog [(2, none)] (RF187x R_ res)) [(8, vi a7), (7, vi (x0.length : Int)), (6, v0), (3, a2)] h := by
  have hb' := hb
  try simp only [qa, qaD] at hb'
  have hc' := hc
  try simp only [qa, qaD] at hc'
  intro m
  induction m with
  | zero =>
    intro a7 a1 a0 a2 a4 a6 a3 a5 c1 b2 b0 h M0 hres
    rw [env_join_byte_L1] at hres
    refine rc_loop ?_
    refine sR ?_
    refine bN i_lss rfl rfl ?_
    refine nS ?_
    refine rc_seq ?_
    refine rc_cond rfl ?_ ?_ <;> intro c <;> try simp only [qa, qaD] at c
    · omega
    refine rc_exit ?_
    refine px_seq ?_
    refine px_again ?_
    exact wP (c3 a4 a6 a3 a5 (Mem.sub M0 (.cons_cons _ (List.Sublist.refl R_))) hres) rfl
  | succ m ih =>
    intro a7 a1 a0 a2 a4 a6 a3 a5 c1 b2 b0 h M0 hres
    rw [env_join_byte_L1] at hres
    refine rc_loop ?_
    refine sR ?_
    refine bN i_lss rfl rfl ?_
    refine nS ?_
    refine rc_seq ?_
    refine rc_cond rfl ?_ ?_ <;> intro c <;> try simp only [qa, qaD] at c
    rotate_left
    · omega
    refine rc_skip ?_
    refine pn_seq ?_
    refine rc_seq ?_
    refine rc_block ?_
    refine sR ?_
    obtain ⟨c4, c0, b3⟩ := sl_idx (i := a7) r0 (by omega) (by omega)
    refine rd_op (ov_iaddr rfl rfl c0) ?_
    refine lD b3 rfl rfl rfl ?_
    refine mV rfl ?_
    refine nS ?_
    refine rc_region ?_
    refine mV rfl ?_
    refine mV rfl ?_
    obtain ⟨a8, b7, a9⟩ := src_of (t := tU8) (h := h) b3
    have b1 : fits (a0.length + a8.length) 1 = true := by rw [All2.length_eq a4, All2.length_eq a9]; (try simp only [List.length_cons, List.length_nil]); exact fits_of (by (have hk := jn_ix hb (i := a7) (by omega) (by omega); omega)) (by (have hk := jn_ix hb (i := a7) (by omega) (by omega); omega))
    refine rd_appW (k := 0) (es := a0) (news := a8) M0 rfl rfl rfl a6 a3 b7 b1 (fun c5 c2 b9 b4 b8 => ?_)
    have b6 : All2 tU8.R (a1 ++ (ix x0 a7)) (a0 ++ a8) := All2.app a4 a9
    have b5 : (a1 ++ (ix x0 a7)).length ≤ 4611686018427387904 := by rw [← All2.length_eq b6, List.length_append]; exact fits_len b1
    refine mV rfl ?_
    refine rd_nil ?_
    refine pn_blk ?_
    refine pn_seq ?_
    refine rc_region ?_
    refine bN i_add rfl rfl ?_
    refine mV rfl ?_
    refine rd_nil ?_
    refine pn_again ?_
    have hbd := sl_bound r0
    have hinc : wr (a7 + 1) = a7 + 1 := wr_of (by omega) (by omega)
    erw [hinc]
    exact wC (ih  b6 b9 b4 b5 (by omega) (by omega) (by (have hk := jn_ix hb (i := a7) (by omega) (by omega); simp only [List.length_append]; omega)) (Mem.sub b8 (.cons_cons _ (List.Sublist.refl R_))) hres) rfl

theorem f187x_ok {x0 : List (List UInt8)} {v0 : PV} {R_ : List Ent} {h_ : Heap} (r0 : (tSl (tSl tU8)).R x0 v0) (M_ : Mem h_ (R_)) (hb : ∀ l ∈ x0, l.length ≤ 1048576) (hc : x0.length ≤ 1) : ∃ r b1, FnX Tryz.prog 187 [v0] h_ r b1 ∧ RF187x R_ (env_join_byte x0) r b1 := by
  obtain ⟨res, hres⟩ : ∃ res, env_join_byte x0 = res := ⟨_, rfl⟩
  suffices H : RC Tryz.prog ac187 [] (retPost Tryz.prog [(2, none)] (RF187x R_ res)) (argE 0 [v0]) h_ by
    rw [hres]
    exact fnX text187 (by simp) H
  unfold env_join_byte at hres
  refine sR ?_
  refine rd_op (v := nilS) (ov_move rfl) ?_
  refine nR ?_
  refine rd_op (v := nilS) (ov_move rfl) ?_
  refine nS ?_
  refine rc_seq ?_
  refine sR ?_
  refine mV rfl ?_
  refine rd_op (ov_bi rfl (sl_len r0 Tryz.underlying259 _)) ?_
  refine mI rfl ?_
  refine nS ?_
  refine rc_block ?_
  have b0 := mem_acc (sz := 1) (es := []) M_ 5 (.inl ⟨none, rfl, rfl⟩) (by simp)
  refine wC (env_join_byte_L1x_ok r0 hb hc ?_  aL rfl (.inl rfl) (by first | decide | simp) rfl (by omega) (by simp) (Mem.sub b0 (.cons_cons _ (List.Sublist.refl R_))) hres) rfl
  · intro a6 a0 a1 a5 a4 a3 a2 a8 a9 hres
    refine px_blk ?_
    refine pn_seq ?_
    refine sR ?_
    refine mV rfl ?_
    refine mV rfl ?_
    refine nS ?_
    have a7 : Mem a8 (⟨a1, 5, 1, a0⟩ :: R_) := (Mem.front (k := 0) a9 rfl)
    subst hres
    exact rc_retX (.tmp rfl .nil) ⟨a1, a0, Mem.sub a7 (.cons_cons _ (List.Sublist.refl R_)), a5, a4, a2, a3, rfl⟩

theorem join1_b (l : List Bool) : env_join_bool [l] = l := by
  simp [env_join_bool, env_join_bool_L1, ix]
theorem join1_w (l : List (BitVec 32)) : env_join_uint32 [l] = l := by
  simp [env_join_uint32, env_join_uint32_L1, ix]
theorem join1_y (l : List UInt8) : env_join_byte [l] = l := by
  simp [env_join_byte, env_join_byte_L1, ix]
theorem sl1 {α : Type} {t : TR α} {l : α} {c : PV} (h : t.R l c) : (tSl t).R [l] (.fs true [c]) := sl_fs (t := t) (l := [l]) ⟨h, trivial⟩ (by simp)
theorem jn_b {l : List Bool} {c : PV} (q : (tSl tB).R l c) (hl : l.length ≤ 1048576) : ∃ r k es, FnX Tryz.prog 185 [.fs true [c]] ⟨0, []⟩ r k ∧ Mem k [⟨r, 4, 1, es⟩] ∧ All2 tB.R l es ∧ isL r = true ∧ Wri r es := by
  obtain ⟨r, k, h1, a, es, h2, h3, h4, h5, h6, rfl⟩ := f185x_ok (x0 := [l]) (sl1 q) (Mem.nil ⟨0, []⟩) (by simpa using hl) (by simp)
  rw [join1_b] at h3
  exact ⟨_, k, es, h1, h2, h3, h4, h6⟩
theorem jn_w {l : List (BitVec 32)} {c : PV} (q : (tSl tU32).R l c) (hl : l.length ≤ 1048576) : ∃ r k es, FnX Tryz.prog 186 [.fs true [c]] ⟨0, []⟩ r k ∧ Mem k [⟨r, 89, 1, es⟩] ∧ All2 tU32.R l es ∧ isL r = true ∧ Wri r es := by
  obtain ⟨r, k, h1, a, es, h2, h3, h4, h5, h6, rfl⟩ := f186x_ok (x0 := [l]) (sl1 q) (Mem.nil ⟨0, []⟩) (by simpa using hl) (by simp)
  rw [join1_w] at h3
  exact ⟨_, k, es, h1, h2, h3, h4, h6⟩
theorem jn_y {l : List UInt8} {c : PV} (q : (tSl tU8).R l c) (hl : l.length ≤ 1048576) : ∃ r k es, FnX Tryz.prog 187 [.fs true [c]] ⟨0, []⟩ r k ∧ Mem k [⟨r, 5, 1, es⟩] ∧ All2 tU8.R l es ∧ isL r = true ∧ Wri r es := by
  obtain ⟨r, k, h1, a, es, h2, h3, h4, h5, h6, rfl⟩ := f187x_ok (x0 := [l]) (sl1 q) (Mem.nil ⟨0, []⟩) (by simpa using hl) (by simp)
  rw [join1_y] at h3
  exact ⟨_, k, es, h1, h2, h3, h4, h6⟩
theorem perm_mid {g : Ent} {X I R : List Ent} : (g :: (X ++ (I ++ R))).Perm (X ++ ((I ++ [g]) ++ R)) := by
  have e1 : X ++ ((I ++ [g]) ++ R) = (X ++ I) ++ g :: R := by simp
  have e2 : X ++ (I ++ R) = (X ++ I) ++ R := by simp
  rw [e1, e2]
  exact List.perm_middle.symm
def CQ (x0 : api_Env) (R_ : List Ent) (r : PV) (h : Heap) : Prop := ∃ a b c d eb ef em ep I, r = .agg [a, b, c, d] ∧ OE h x0 a b c d eb ef em ep I R_
theorem cl_L1 {S : List Fr} {Q : Post} {x0 : api_Env} {c1 : PV} (q1 : (tSl (tSl tU32)).R x0.Fields c1) (hE : EB x0) {a c d : PV} {e1 e2 e3 : List PV} {i2 w2 i3 w3 : Nat} {R_ : List Ent} (na : isL a = true) (nc : isL c = true) (nd : isL d = true)
    (K : ∀ {h : Heap} {zv : PV} {ze : List PV} {I : List Ent}, Ns tU32 89 x0.Fields ze I → isL zv = true → Wri zv ze → Mem h (⟨.op i3 w3 0, 46, 4, [.agg [a, zv, c, d]]⟩ :: ⟨zv, 43, 1, ze⟩ :: ⟨d, 5, 1, e3⟩ :: ⟨c, 89, 1, e2⟩ :: ⟨a, 4, 1, e1⟩ :: ⟨.op i2 w2 0, 46, 4, [.agg [nilS, nilS, nilS, nilS]]⟩ :: (I ++ R_)) → PX Tryz.prog 0 S Q [(3, .op i3 w3 0), (2, .op i2 w2 0)] h) :
    ∀ (m : Nat) {i : Int} {zv : PV} {ze : List PV} {I : List Ent} {h : Heap}, m = Int.toNat ((x0.Fields.length : Int) - i) → 0 ≤ i → i ≤ x0.Fields.length → Ns tU32 89 (x0.Fields.take i.toNat) ze I → isL zv = true → Wri zv ze →
      Mem h (⟨.op i3 w3 0, 46, 4, [.agg [a, zv, c, d]]⟩ :: ⟨zv, 43, 1, ze⟩ :: ⟨d, 5, 1, e3⟩ :: ⟨c, 89, 1, e2⟩ :: ⟨a, 4, 1, e1⟩ :: ⟨.op i2 w2 0, 46, 4, [.agg [nilS, nilS, nilS, nilS]]⟩ :: (I ++ R_)) →
      RC Tryz.prog (.loop ac116_L1) S Q [(22, vi i), (21, vi (x0.Fields.length : Int)), (20, c1), (3, .op i3 w3 0), (2, .op i2 w2 0)] h
  | 0, i, zv, ze, I, h, hm, h0, h1, hn, nz, wz, M => by
    refine rc_loop ?_
    refine rc_seq (rc_region (rd_op (ov_bin rfl rfl i_lss) (rd_nil (pn_seq (rc_seq (rc_cond rfl (fun hc => ?_) fun hc => ?_))))))
    · simp only [decide_eq_true_eq] at hc; omega
    · have e : i = x0.Fields.length := by omega
      subst e
      rw [Int.toNat_natCast, List.take_length] at hn
      exact rc_exit (px_seq (px_again (wP (K hn nz wz M) rfl)))
  | m + 1, i, zv, ze, I, h, hm, h0, h1, hn, nz, wz, M => by
    have hlt : i < (x0.Fields.length : Int) := by omega
    refine rc_loop ?_
    refine rc_seq (rc_region (rd_op (ov_bin rfl rfl i_lss) (rd_nil (pn_seq (rc_seq (rc_cond rfl (fun hc => ?_) fun hc => ?_))))))
    · refine rc_skip (pn_seq (rc_seq (rc_block ?_)))
      obtain ⟨g0, e0, q0⟩ := sl_idx (i := i) q1 h0 hlt
      refine rc_seq (rc_region (rd_op (ov_iaddr rfl rfl e0) (rd_op (ov_load rfl (TR.cnt _ q0) (TR.agg _ q0)) (rd_op (ov_move rfl) (rd_nil (pn_seq (rc_regionM ?_)))))))
      refine rm_q (ov_faddrO rfl) (rm_q (ov_loadf (k := 0) M rfl rfl (mk1 (mem_one (k := 1) M rfl nz).2)) (rm_q (ov_move rfl) (rm_q (ov_bslice rfl (all_cons (TR.cnt _ q0) all_nil)) ?_)))
      obtain ⟨r1, k1, es, X1, N1, A1, L1, W1⟩ := jn_w q0 (jn_ix hE.i h0 hlt)
      refine rm_graft X1 N1 L1 A1.clo W1 M rfl rfl (clL_cons (by simp [closed, closedL, TR.clo _ q0]) clL_nil) (fun g a1 ng wg M1 => ?_)
      refine rm_q (ov_bslice rfl (all_cons (mem_cnt1 (k := 0) M1 rfl ng) all_nil)) ?_
      have hzl := hn.len
      refine rm_appW (k := 2) (es := ze) (news := [g]) M1 rfl rfl rfl nz wz (src_sl (.inr ⟨true, rfl⟩) (fun y hy => by rw [List.mem_singleton.1 hy]; exact mem_cnt1 (k := 0) M1 rfl ng)) (by have hl := hn.len.1; have hf := hE.f; simp only [List.length_take] at hl; exact fits_of (by simp only [List.length_cons, List.length_nil]; omega) (by simp only [List.length_cons, List.length_nil]; omega)) (fun z' a0 nz' wz' M2 => ?_)
      refine rm_q (ov_faddrO rfl) ?_
      refine rm_storeF (k := 1) (v := z') M2 rfl rfl rfl (mem_one (k := 2) M2 rfl nz').1 rfl (by simp) (fun a2 M3 => ?_)
      refine rm_nil (pn_blk (pn_seq ?_))
      refine rc_region (rd_op (ov_bin rfl rfl i_add) (rd_op (ov_move rfl) (rd_nil (pn_again ?_))))
      have M4 := Mem.perm (L := ⟨g, 89, 1, es⟩ :: ([⟨.op i3 w3 0, 46, 4, [.agg [a, z', c, d]]⟩, ⟨z', 43, 1, ze ++ [g]⟩, ⟨d, 5, 1, e3⟩, ⟨c, 89, 1, e2⟩, ⟨a, 4, 1, e1⟩, ⟨.op i2 w2 0, 46, 4, [.agg [nilS, nilS, nilS, nilS]]⟩] ++ (I ++ R_))) M3 perm_mid
      have hinc : wr (i + 1) = i + 1 := wr_of (by omega) (by have := hE.f; omega)
      refine rc_weak ?_ (cl_L1 q1 hE na nc nd K m (i := i + 1) (zv := z') (ze := ze ++ [g]) (I := I ++ [(⟨g, 89, 1, es⟩ : Ent)]) (by omega) (by omega) (by omega) ?_ nz' wz' M4)
      · exact sub_cons (by show some (vi (wr (i + 1))) = _; rw [hinc]) (sB rfl)
      · have e : x0.Fields.take (i + 1).toNat = x0.Fields.take i.toNat ++ [ix x0.Fields i] := by
          rw [ix_lt h0 hlt, show (i + 1).toNat = i.toNat + 1 by omega, List.take_succ_eq_append_getElem]
        rw [e]
        exact hn.app1 ⟨rfl, rfl, rfl, A1, ng, by have := jn_ix hE.i h0 hlt; omega, wg⟩
    · simp only [decide_eq_false_iff_not] at hc; omega
theorem f116o_ok {x0 : api_Env} {v0 : PV} {R_ : List Ent} {h_ : Heap} (r0 : api_Env.t.R x0 v0) (hE : EB x0) (M_ : Mem h_ R_) : ∃ r k, FnX Tryz.prog 116 [v0] h_ r k ∧ CQ x0 R_ r k := by
  refine fnX text116 (by simp) ?_
  obtain ⟨c0, c1, c2, c3, rfl, q0, q1, q2, q3⟩ := r0
  refine rc_seq (rc_region ?_)
  refine rd_op (ov_box rfl rfl) ?_
  refine rd_allocO (x := .agg [nilS, nilS, nilS, nilS]) M_ rfl rfl (fun i2 w2 h2 M2 => ?_)
  refine rd_nil (pn_seq ?_)
  refine rc_seq (rc_regionM ?_)
  refine rm_q (ov_faddr rfl (mk1 (TR.agg _ q0))) (rm_q (ov_load rfl (TR.cnt _ q0) (TR.agg _ q0)) (rm_q (ov_bslice rfl (all_cons (TR.cnt _ q0) all_nil)) ?_))
  obtain ⟨r1, k1, e1, X1, N1, A1, L1, W1⟩ := jn_b q0 hE.v
  refine rm_graft X1 N1 L1 A1.clo W1 M2 rfl rfl (clL_cons (by simp [closed, closedL, TR.clo _ q0]) clL_nil) (fun a h3 na wa M3 => ?_)
  refine rm_q (ov_faddr rfl (mk1 (TR.agg _ q2))) (rm_q (ov_load rfl (TR.cnt _ q2) (TR.agg _ q2)) (rm_q (ov_bslice rfl (all_cons (TR.cnt _ q2) all_nil)) ?_))
  obtain ⟨r2, k2, e2, X2, N2, A2, L2, W2⟩ := jn_w q2 hE.m
  refine rm_graft X2 N2 L2 A2.clo W2 M3 rfl rfl (clL_cons (by simp [closed, closedL, TR.clo _ q2]) clL_nil) (fun c h4 nc wc M4 => ?_)
  refine rm_q (ov_faddr rfl (mk1 (TR.agg _ q3))) (rm_q (ov_load rfl (TR.cnt _ q3) (TR.agg _ q3)) (rm_q (ov_bslice rfl (all_cons (TR.cnt _ q3) all_nil)) ?_))
  obtain ⟨r3, k3, e3, X3, N3, A3, L3, W3⟩ := jn_y q3 hE.p
  refine rm_graft X3 N3 L3 A3.clo W3 M4 rfl rfl (clL_cons (by simp [closed, closedL, TR.clo _ q3]) clL_nil) (fun d h5 nd wd M5 => ?_)
  refine rm_q (v := .agg [a, nilS, c, d]) (ov_build (cs := [a, nilS, c, d]) rfl (by simp only [buildV, (mem_one (k := 2) M5 rfl na).1, (mem_one (k := 1) M5 rfl nc).1, (mem_one (k := 0) M5 rfl nd).1]; rfl)) ?_
  refine rm_allocO (x := .agg [nilS, nilS, nilS, nilS]) M5 rfl rfl (fun i3 w3 h6 M6 => ?_)
  refine rm_storeO (k := 0) (v := .agg [a, nilS, c, d]) M6 rfl rfl rfl rfl (fun h7 M7 => ?_)
  replace M7 : Mem h7 (⟨.op i3 w3 0, 46, 4, [.agg [a, nilS, c, d]]⟩ :: ⟨d, 5, 1, e3⟩ :: ⟨c, 89, 1, e2⟩ :: ⟨a, 4, 1, e1⟩ :: ⟨.op i2 w2 0, 46, 4, [.agg [nilS, nilS, nilS, nilS]]⟩ :: R_) := M7
  refine rm_nil ?_
  refine pn_seq (rc_seq (rc_seq (rc_region ?_)))
  refine rd_op (ov_faddr rfl (mk1 (TR.agg _ q1))) (rd_op (ov_load rfl (TR.cnt _ q1) (TR.agg _ q1)) (rd_op (ov_bi rfl (sl_len q1 Tryz.underlying42 _)) (rd_op (ov_move rfl) ?_)))
  refine rd_nil (pn_seq (rc_block ?_))
  have M8 := mem_acc (sz := 1) (es := []) M7 43 (.inl ⟨none, rfl, rfl⟩) (by simp)
  refine wC (cl_L1 (x0 := x0) q1 hE na nc nd ?_ x0.Fields.length (i := 0) (zv := nilS) (ze := []) (I := []) (h := h7) (by omega) (by omega) (by omega) trivial rfl (.inl rfl) (Mem.front (k := 1) M8 rfl)) rfl
  · intro h zv ze I hn nz wz M
    refine px_blk (pn_seq ?_)
    refine rc_seq (rc_region ?_)
    refine rd_op (ov_load0 (k := 0) M rfl rfl rfl) ?_
    refine rd_storeO (k := 5) (v := .agg [a, zv, c, d]) M rfl rfl rfl rfl (fun h' M' => ?_)
    refine rd_nil (pn_seq ?_)
    refine rc_retX (.cell rfl (load_whole (k := 5) M' rfl rfl) .nil) ⟨a, zv, c, d, _, _, _, _, I, rfl, ?_, A1, hn, A2, A3, na, nz, nc, nd, wa, wz, wc⟩
    exact Mem.front (k := 3) (Mem.front (k := 2) (Mem.front (k := 2) (Mem.front (k := 1) (Mem.sub M' (.cons _ (.cons_cons _ (.cons_cons _ (.cons_cons _ (.cons_cons _ (.cons _ (List.Sublist.refl _)))))))) rfl) rfl) rfl) rfl
theorem f116_ok {x0 : api_Env} {v0 : PV} (r0 : api_Env.t.R x0 v0) (hE : EB x0) : ∃ r, FnR Tryz.prog 116 [v0] r ∧ api_Env.t.R (env_Clone x0) r := by
  obtain ⟨r, k, X, a, b, c, d, eb, ef, em, ep, I, rfl, H⟩ := f116o_ok r0 hE (Mem.nil ⟨0, []⟩)
  obtain ⟨d', hd, hr⟩ := H.deep hE
  exact ⟨d', FnR.of_X X hd, hr⟩

def RF233 (res : api_Header) (r : PV) : Prop := api_Header.t.R res r
theorem f233_ok {x0 : List api_Header} {x1 : Int} {v0 : PV} (r0 : (tSl api_Header.t).R x0 v0) : ∃ r, FnR Tryz.prog 233 [v0, vi x1] r ∧ api_Header.t.R (env_at_api_Header x0 x1) r := by
  refine fnT (R := RF233) text233 rfl fun res hres => ?_
  unfold env_at_api_Header at hres
  refine sR ?_
  refine rd_allocO (x := .agg [vs [], nilS]) (Mem.nil ⟨0, []⟩) rfl rfl (fun a5 a6 b2 a7 => ?_)
  refine nR ?_
  refine rd_op (ov_allocv (x := .agg [vs [], nilS]) rfl rfl) ?_
  refine nS ?_
  refine rc_seq ?_
  refine sR ?_
  refine mV rfl ?_
  refine bN i_lss rfl rfl ?_
  refine mV rfl ?_
  refine rd_cutn 5 (d := 13) (v := vb ((decide (x1 < 0)) || (decide ((x0.length : Int) ≤ x1)))) ?_ ?_
  · intro S Q r
    cases a8 : (decide (x1 < 0))
    · intro k
      have a2 := a8
      try simp only [qa, qaD] at a2
      refine rd_yes rfl rfl (ov_move rfl) ?_
      refine rd_yes rfl rfl (ov_move rfl) ?_
      refine rd_yes rfl rfl (ov_bi rfl (sl_len r0 Tryz.underlying22 _)) ?_
      refine rd_yes rfl rfl (ov_bin rfl rfl i_geq) ?_
      exact gK rfl rfl rfl rfl rfl k
    · exact gN 4 rfl rfl rfl rfl rfl rfl
  refine nS ?_
  refine rc_br hres rfl ?_ ?_ <;> clear hres <;> intro c hres <;> try simp only [qa, qaD] at c
  · refine sR ?_
    refine lR rfl rfl rfl ?_
    refine rd_storeO (k := 0) (v := .agg [vs [], nilS]) a7 rfl rfl rfl rfl (fun b0 a1 => ?_)
    replace a1 : Mem b0 [⟨.op a5 a6 0, 92, 2, [.agg [vs [], nilS]]⟩] := a1
    refine nS ?_
    subst hres
    exact rc_retV (.cell rfl (load_whole (k := 0) a1 rfl rfl) .nil) (deep_closed (TR.clo api_Header.t (show api_Header.t.R ({ Name := ([] : List UInt8), Fields := ([] : List api_Field) } : api_Header) (.agg [vs [], nilS]) from ⟨nilS, rfl, sl_nil⟩))) (show api_Header.t.R ({ Name := ([] : List UInt8), Fields := ([] : List api_Field) } : api_Header) (.agg [vs [], nilS]) from ⟨nilS, rfl, sl_nil⟩)
  · refine rc_skip ?_
    refine pn_seq ?_
    refine sR ?_
    refine mV rfl ?_
    refine mV rfl ?_
    obtain ⟨a4, a9, a0⟩ := sl_idx (i := x1) r0 (by omega) (by omega)
    refine rd_op (ov_iaddr rfl rfl a9) ?_
    refine lD a0 rfl rfl rfl ?_
    refine rd_storeO (k := 0) (v := a4) a7 rfl rfl rfl (TR.cnt api_Header.t a0) (fun b1 a3 => ?_)
    replace a3 : Mem b1 [⟨.op a5 a6 0, 92, 2, [a4]⟩] := a3
    refine nS ?_
    subst hres
    exact rc_retV (.cell rfl (load_whole (k := 0) a3 rfl (TR.agg api_Header.t a0)) .nil) (deep_closed (TR.clo api_Header.t a0)) a0

def RF203 (res : (List api_Field)) (r : PV) : Prop := (tSl api_Field.t).R res r
theorem f203_ok {x0 : api_Program} {x1 : Int} {v0 : PV} (r0 : api_Program.t.R x0 v0) : ∃ r, FnR Tryz.prog 203 [v0, vi x1] r ∧ (tSl api_Field.t).R (env_fields x0 x1) r := by
  refine fnT (R := RF203) text203 rfl fun res hres => ?_
  unfold env_fields at hres
  refine sR ?_
  refine rd_op (ov_box rfl (TR.cnt api_Program.t r0)) ?_
  refine rd_op (v := nilS) (ov_move rfl) ?_
  refine nS ?_
  refine rc_seq ?_
  refine sR ?_
  refine mV rfl ?_
  refine bN (i_eql (b := -1)) rfl rfl ?_
  refine nS ?_
  refine rc_br hres rfl ?_ ?_ <;> clear hres <;> intro c hres <;> try simp only [qa, qaD] at c
  · refine sR ?_
    refine gL (api_Program.g_Metadata r0) rfl rfl rfl fun a9 a4 => ?_
    refine mV rfl ?_
    refine nS ?_
    exact rR hres rfl (TR.clo (tSl api_Field.t) a4) a4
  · refine rc_skip ?_
    refine pn_seq ?_
    refine sR ?_
    refine gL (api_Program.g_Headers r0) rfl rfl rfl fun b0 a0 => ?_
    refine mV rfl ?_
    obtain ⟨a7, a1, hres⟩ := let_ex hres
    obtain ⟨b1, a6, a3⟩ := f233_ok (x1 := x1) a0 
    rw [a1] at a3
    refine cL a6 rfl rfl (clL_cons (TR.clo (tSl api_Header.t) a0) (clL_cons rfl clL_nil)) ?_
    obtain ⟨a8, a5, a2⟩ := api_Header.g_Fields a3
    refine rd_op (ov_field rfl a5) ?_
    refine mV rfl ?_
    refine nS ?_
    exact rR hres rfl (TR.clo (tSl api_Field.t) a2) a2

def RF202 (res : api_Field) (r : PV) : Prop := api_Field.t.R res r
theorem f202_ok {x0 : List api_Field} {x1 : Int} {v0 : PV} (r0 : (tSl api_Field.t).R x0 v0) : ∃ r, FnR Tryz.prog 202 [v0, vi x1] r ∧ api_Field.t.R (env_at_api_Field x0 x1) r := by
  refine fnT (R := RF202) text202 rfl fun res hres => ?_
  unfold env_at_api_Field at hres
  refine sR ?_
  refine rd_allocO (x := .agg [vs [], vi 0]) (Mem.nil ⟨0, []⟩) rfl rfl (fun a5 a6 b2 a7 => ?_)
  refine nR ?_
  refine rd_op (ov_allocv (x := .agg [vs [], vi 0]) rfl rfl) ?_
  refine nS ?_
  refine rc_seq ?_
  refine sR ?_
  refine mV rfl ?_
  refine bN i_lss rfl rfl ?_
  refine mV rfl ?_
  refine rd_cutn 5 (d := 13) (v := vb ((decide (x1 < 0)) || (decide ((x0.length : Int) ≤ x1)))) ?_ ?_
  · intro S Q r
    cases a8 : (decide (x1 < 0))
    · intro k
      have a2 := a8
      try simp only [qa, qaD] at a2
      refine rd_yes rfl rfl (ov_move rfl) ?_
      refine rd_yes rfl rfl (ov_move rfl) ?_
      refine rd_yes rfl rfl (ov_bi rfl (sl_len r0 Tryz.underlying23 _)) ?_
      refine rd_yes rfl rfl (ov_bin rfl rfl i_geq) ?_
      exact gK rfl rfl rfl rfl rfl k
    · exact gN 4 rfl rfl rfl rfl rfl rfl
  refine nS ?_
  refine rc_br hres rfl ?_ ?_ <;> clear hres <;> intro c hres <;> try simp only [qa, qaD] at c
  · refine sR ?_
    refine lR rfl rfl rfl ?_
    refine rd_storeO (k := 0) (v := .agg [vs [], vi 0]) a7 rfl rfl rfl rfl (fun b0 a1 => ?_)
    replace a1 : Mem b0 [⟨.op a5 a6 0, 166, 2, [.agg [vs [], vi 0]]⟩] := a1
    refine nS ?_
    subst hres
    exact rc_retV (.cell rfl (load_whole (k := 0) a1 rfl rfl) .nil) (deep_closed (TR.clo api_Field.t (show api_Field.t.R ({ Name := ([] : List UInt8), Width := 0 } : api_Field) (.agg [vs [], vi 0]) from rfl))) (show api_Field.t.R ({ Name := ([] : List UInt8), Width := 0 } : api_Field) (.agg [vs [], vi 0]) from rfl)
  · refine rc_skip ?_
    refine pn_seq ?_
    refine sR ?_
    refine mV rfl ?_
    refine mV rfl ?_
    obtain ⟨a4, a9, a0⟩ := sl_idx (i := x1) r0 (by omega) (by omega)
    refine rd_op (ov_iaddr rfl rfl a9) ?_
    refine lD a0 rfl rfl rfl ?_
    refine rd_storeO (k := 0) (v := a4) a7 rfl rfl rfl (TR.cnt api_Field.t a0) (fun b1 a3 => ?_)
    replace a3 : Mem b1 [⟨.op a5 a6 0, 166, 2, [a4]⟩] := a3
    refine nS ?_
    subst hres
    exact rc_retV (.cell rfl (load_whole (k := 0) a3 rfl (TR.agg api_Field.t a0)) .nil) (deep_closed (TR.clo api_Field.t a0)) a0

def RF181 (res : Bool) (r : PV) : Prop := r = vb res
theorem bitvec_valid_L1_ok {S : List Fr} {res : Bool} {x0 : List Int} {v0 : PV} (r0 : (tSl tI).R x0 v0) {K0 : Unit → Bool}
    (a5 : K0 () = res → PX Tryz.prog 0 S (QR Tryz.prog [(2, none)] (RF181 res)) [] ⟨0, []⟩) :
    ∀ {m : Nat} {a0 : Int} (a4 : m = Int.toNat ((x0.length : Int) - a0)) (a2 : 0 ≤ a0), bitvec_valid_L1 x0 K0 m a0 = res → RC Tryz.prog (.loop ac181_L1) S (QR Tryz.prog [(2, none)] (RF181 res)) [(7, vi a0), (6, vi (x0.length : Int)), (5, v0)] ⟨0, []⟩ := by
  intro m
  induction m with
  | zero =>
    intro a0 a4 a2 hres
    rw [bitvec_valid_L1] at hres
    refine rc_loop ?_
    refine sR ?_
    refine bN i_lss rfl rfl ?_
    refine nS ?_
    refine rc_seq ?_
    refine rc_cond rfl ?_ ?_ <;> intro c <;> try simp only [qa, qaD] at c
    · omega
    refine rc_exit ?_
    refine px_seq ?_
    refine px_again ?_
    exact wP (a5  hres) rfl
  | succ m ih =>
    intro a0 a4 a2 hres
    rw [bitvec_valid_L1] at hres
    refine rc_loop ?_
    refine sR ?_
    refine bN i_lss rfl rfl ?_
    refine nS ?_
    refine rc_seq ?_
    refine rc_cond rfl ?_ ?_ <;> intro c <;> try simp only [qa, qaD] at c
    rotate_left
    · omega
    refine rc_skip ?_
    refine pn_seq ?_
    refine rc_seq ?_
    refine rc_block ?_
    refine sR ?_
    refine rd_op (ov_iaddr rfl rfl (slI r0 (by omega) (by omega))) ?_
    refine lR rfl rfl rfl ?_
    refine mV rfl ?_
    refine nR ?_
    refine mV rfl ?_
    refine bN i_lss rfl rfl ?_
    refine mV rfl ?_
    refine rd_cutn 3 (d := 16) (v := vb ((decide ((ix x0 a0) < 1)) || (decide (32 < (ix x0 a0))))) ?_ ?_
    · intro S Q r
      cases a3 : (decide ((ix x0 a0) < 1))
      · intro k
        have a1 := a3
        try simp only [qa, qaD] at a1
        refine rd_yes rfl rfl (ov_move rfl) ?_
        refine rd_yes rfl rfl (ov_bin rfl rfl i_gtr) ?_
        exact gK rfl rfl rfl rfl rfl k
      · exact gN 2 rfl rfl rfl rfl rfl rfl
    refine nS ?_
    refine rc_br hres rfl ?_ ?_ <;> clear hres <;> intro c hres <;> try simp only [qa, qaD] at c
    · refine sR ?_
      refine mB rfl ?_
      refine nS ?_
      exact rR hres rfl rfl rfl
    · refine rc_skip ?_
      refine pn_blk ?_
      refine pn_seq ?_
      refine rc_region ?_
      refine bN i_add rfl rfl ?_
      refine mV rfl ?_
      refine rd_nil ?_
      refine pn_again ?_
      have hbd := sl_bound r0
      have hinc : wr (a0 + 1) = a0 + 1 := wr_of (by omega) (by omega)
      erw [hinc]
      exact wC (ih   (by omega) (by omega) hres) rfl

theorem f181_ok {x0 : List Int} {v0 : PV} (r0 : (tSl tI).R x0 v0) : FnR Tryz.prog 181 [v0] (vb (bitvec_valid x0)) := by
  refine fnS (R := RF181) text181 (fun _ h => h) rfl fun res hres => ?_
  unfold bitvec_valid at hres
  refine sR ?_
  refine mB rfl ?_
  refine nS ?_
  refine rc_seq ?_
  refine sR ?_
  refine mV rfl ?_
  refine rd_op (ov_bi rfl (sl_len r0 Tryz.underlying29 _)) ?_
  refine mI rfl ?_
  refine nS ?_
  refine rc_block ?_
  refine wC (bitvec_valid_L1_ok r0 ?_  rfl (by omega) hres) rfl
  · intro  hres
    refine px_blk ?_
    refine pn_seq ?_
    refine sR ?_
    refine mB rfl ?_
    refine nS ?_
    exact rR hres rfl rfl rfl

end Go.Proofs.YtmonnlkagniolaaGreat
