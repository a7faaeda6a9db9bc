/-
  The code of each function does what its plain program says.
-/
import Derived.Test.YtkgnjpoafilicaaL9W0
set_option linter.unusedVariables false
set_option linter.unusedSimpArgs false
set_option maxRecDepth 100000
namespace Go.Proofs.Ytkgnjpoafilicaa
open Go Go.Pb Go.RowKit
def RF92 (res : Int × Int) (r : PV) : Prop := r = .tup [vi res.1, vi res.2]
theorem f92_ok {x0 : Int} : FnR Try.prog 92 [vi x0] (.tup [vi ((expr_wide x0).1), vi ((expr_wide x0).2)]) := by
  refine fnS (R := RF92) text92 (fun _ h => h) rfl fun res hres => ?_
  unfold expr_wide at hres
  refine sR ?_
  refine mI rfl ?_
  refine mI rfl ?_
  refine nS ?_
  refine rc_seq ?_
  refine sR ?_
  refine mV rfl ?_
  refine bN i_lss rfl rfl ?_
  refine mV rfl ?_
  refine rd_cutn 3 (d := 9) (v := vb ((decide (x0 < 1)) || (decide (32 < x0)))) ?_ ?_
  · intro S Q r
    cases a1 : (decide (x0 < 1))
    · intro k
      have a0 := a1
      try simp only [qa, qaD] at a0
      refine rd_yes rfl rfl (ov_move rfl) ?_
      refine rd_yes rfl rfl (ov_bin rfl rfl i_gtr) ?_
      exact gK rfl rfl rfl rfl rfl k
    · exact gN 2 rfl rfl rfl rfl rfl rfl
  refine nS ?_
  refine rc_br hres rfl ?_ ?_ <;> clear hres <;> intro c hres <;> try simp only [qa, qaD] at c
  · refine sR ?_
    refine mI rfl ?_
    refine mI rfl ?_
    refine nS ?_
    exact rT hres rfl rfl rfl rfl rfl
  · refine rc_skip ?_
    refine pn_seq ?_
    refine sR ?_
    refine mV rfl ?_
    refine mV rfl ?_
    refine mI rfl ?_
    refine nS ?_
    exact rT hres rfl rfl rfl rfl rfl

def RF98 (res : Bool) (r : PV) : Prop := r = vb res
theorem bitvec_valid_L1_ok {S : List Fr} {res : Bool} {x0 : List Int} {v0 : PV} (r0 : (tSl tI).R x0 v0) {K0 : Unit → Bool}
    (a5 : K0 () = res → PX Try.prog 0 S (QR Try.prog [(2, none)] (RF98 res)) [] ⟨0, []⟩) :
    ∀ {m : Nat} {a0 : Int} (a4 : m = Int.toNat ((x0.length : Int) - a0)) (a2 : 0 ≤ a0), bitvec_valid_L1 x0 K0 m a0 = res → RC Try.prog (.loop ac98_L1) S (QR Try.prog [(2, none)] (RF98 res)) [(7, vi a0), (6, vi (x0.length : Int)), (5, v0)] ⟨0, []⟩ := by
  intro m
  induction m with
  | zero =>
    intro a0 a4 a2 hres
    rw [bitvec_valid_L1] at hres
    refine rc_loop ?_
    refine sR ?_
    refine bN i_lss rfl rfl ?_
    refine nS ?_
    refine rc_seq ?_
    refine rc_cond rfl ?_ ?_ <;> intro c <;> try simp only [qa, qaD] at c
    · omega
    refine rc_exit ?_
    refine px_seq ?_
    refine px_again ?_
    exact wP (a5  hres) rfl
  | succ m ih =>
    intro a0 a4 a2 hres
    rw [bitvec_valid_L1] at hres
    refine rc_loop ?_
    refine sR ?_
    refine bN i_lss rfl rfl ?_
    refine nS ?_
    refine rc_seq ?_
    refine rc_cond rfl ?_ ?_ <;> intro c <;> try simp only [qa, qaD] at c
    rotate_left
    · omega
    refine rc_skip ?_
    refine pn_seq ?_
    refine rc_seq ?_
    refine rc_block ?_
    refine sR ?_
    refine rd_op (ov_iaddr rfl rfl (slI r0 (by omega) (by omega))) ?_
    refine lR rfl rfl rfl ?_
    refine mV rfl ?_
    refine nR ?_
    refine mV rfl ?_
    refine bN i_lss rfl rfl ?_
    refine mV rfl ?_
    refine rd_cutn 3 (d := 16) (v := vb ((decide ((ix x0 a0) < 1)) || (decide (32 < (ix x0 a0))))) ?_ ?_
    · intro S Q r
      cases a3 : (decide ((ix x0 a0) < 1))
      · intro k
        have a1 := a3
        try simp only [qa, qaD] at a1
        refine rd_yes rfl rfl (ov_move rfl) ?_
        refine rd_yes rfl rfl (ov_bin rfl rfl i_gtr) ?_
        exact gK rfl rfl rfl rfl rfl k
      · exact gN 2 rfl rfl rfl rfl rfl rfl
    refine nS ?_
    refine rc_br hres rfl ?_ ?_ <;> clear hres <;> intro c hres <;> try simp only [qa, qaD] at c
    · refine sR ?_
      refine mB rfl ?_
      refine nS ?_
      exact rR hres rfl rfl rfl
    · refine rc_skip ?_
      refine pn_blk ?_
      refine pn_seq ?_
      refine rc_region ?_
      refine bN i_add rfl rfl ?_
      refine mV rfl ?_
      refine rd_nil ?_
      refine pn_again ?_
      have hbd := sl_bound r0
      have hinc : wr (a0 + 1) = a0 + 1 := wr_of (by omega) (by omega)
      erw [hinc]
      exact wC (ih   (by omega) (by omega) hres) rfl

theorem f98_ok {x0 : List Int} {v0 : PV} (r0 : (tSl tI).R x0 v0) : FnR Try.prog 98 [v0] (vb (bitvec_valid x0)) := by
  refine fnS (R := RF98) text98 (fun _ h => h) rfl fun res hres => ?_
  unfold bitvec_valid at hres
  refine sR ?_
  refine mB rfl ?_
  refine nS ?_
  refine rc_seq ?_
  refine sR ?_
  refine mV rfl ?_
  refine rd_op (ov_bi rfl (sl_len r0 Try.underlying29 _)) ?_
  refine mI rfl ?_
  refine nS ?_
  refine rc_block ?_
  refine wC (bitvec_valid_L1_ok r0 ?_  rfl (by omega) hres) rfl
  · intro  hres
    refine px_blk ?_
    refine pn_seq ?_
    refine sR ?_
    refine mB rfl ?_
    refine nS ?_
    exact rR hres rfl rfl rfl

def RF93 (res : (BitVec 32)) (r : PV) : Prop := r = vu32 res
theorem f93_ok {x0 : Int} : FnR Try.prog 93 [vi x0] (vu32 (bitvec_Mask x0)) := by
  refine fnS (R := RF93) text93 (fun _ h => h) rfl fun res hres => ?_
  unfold bitvec_Mask at hres
  refine sR ?_
  refine rd_op (v := vu32 0#32) (ov_move rfl) ?_
  refine nS ?_
  refine rc_seq ?_
  refine sR ?_
  refine mV rfl ?_
  refine rd_op (v := .fs true [vi x0]) (ov_bslice rfl (all_cons rfl all_nil)) ?_
  have a0 : (tSl tI).R ([x0] : List Int) (.fs true [vi x0]) := sl_fs ⟨rfl, trivial⟩ (by simp)
  obtain ⟨a3, a2, hres⟩ := let_ex hres
  have a1 := f98_ok  a0 
  rw [a2] at a1
  refine cL a1 rfl rfl (clL_cons (TR.clo (tSl tI) a0) clL_nil) ?_
  refine rd_op (ov_not rfl) ?_
  refine nS ?_
  refine rc_br hres rfl ?_ ?_ <;> clear hres <;> intro c hres <;> try simp only [qa, qaD] at c
  · refine sR ?_
    refine rd_op (v := vu32 0#32) (ov_move rfl) ?_
    refine nS ?_
    exact rR hres rfl rfl rfl
  · refine rc_skip ?_
    refine pn_seq ?_
    refine sR ?_
    refine mV rfl ?_
    refine bN i_sub rfl rfl ?_
    refine rd_op (ov_bin (a := vu32 4294967295#32) (b := vi (wr (32 - x0))) rfl rfl (w_shr (by first | omega | exact mask_sh (by assumption) (by assumption) | (rw [wr_of (by omega) (by omega)]; omega) | (have hk := two_sh (by assumption) (And.left (by assumption)); omega)))) ?_
    refine mV rfl ?_
    refine nS ?_
    exact rR hres rfl rfl rfl

def RF94 (res : api_Field × Bool) (r : PV) : Prop := ∃ c0, r = .tup [c0, vb res.2] ∧ api_Field.t.R res.1 c0
theorem f94_ok {x0 : expr_Scope} {x1 x2 : Int} {v0 : PV} (r0 : expr_Scope.t.R x0 v0) : ∃ c0, FnR Try.prog 94 [v0, vi x1, vi x2] (.tup [c0, vb ((m1_expr_Scope__field x0 x1 x2).2)]) ∧ api_Field.t.R (m1_expr_Scope__field x0 x1 x2).1 c0 := by
  obtain ⟨res, hres⟩ : ∃ res, m1_expr_Scope__field x0 x1 x2 = res := ⟨_, rfl⟩
  suffices H : RC Try.prog ac94 [] (QR Try.prog [(6, some (2, true)), (7, none)] (RF94 res)) (argE 0 [v0, vi x1, vi x2]) ⟨0, []⟩ by
    rw [hres]
    obtain ⟨r, h1, c0, rfl, e6⟩ := fnE text94 (by simp) H
    exact ⟨c0, h1, e6⟩
  unfold m1_expr_Scope__field at hres
  refine sR ?_
  refine rd_op (ov_box rfl (TR.cnt expr_Scope.t r0)) ?_
  refine rd_allocO (x := .agg [vs [], vi 0]) (Mem.nil ⟨0, []⟩) rfl rfl (fun a3 a5 e3 a8 => ?_)
  refine mB rfl ?_
  refine nR ?_
  obtain ⟨e8, d3, c4⟩ := expr_Scope.g_Program r0
  refine fA rfl d3 ?_
  refine gL (api_Program.g_Metadata c4) rfl rfl rfl fun e2 b9 => ?_
  refine mV rfl ?_
  refine nS ?_
  refine rc_seq ?_
  refine sR ?_
  refine mV rfl ?_
  refine bN (i_neq (b := -1)) rfl rfl ?_
  refine nS ?_
  obtain ⟨c6, b7, hres⟩ := let_ex hres
  refine rc_join (F := fun b S Q => ∀ (a0 : List api_Field) (a1 : PV) (a2 : (tSl api_Field.t).R a0 a1) (a4 : Heap) (a7 : Mem a4 [⟨.op a3 a5 0, 115, 2, [.agg [vs [], vi 0]]⟩]), c6 a0 = res → RC Try.prog b S Q [(8, a1), (6, .op a3 a5 0), (2, vi x2)] a4) ?_ ?_
  · intro a0 a1 a2 a4 a7 hres
    rw [← b7] at hres
    refine rc_seq ?_
    refine sR ?_
    refine mV rfl ?_
    refine bN i_lss rfl rfl ?_
    refine mV rfl ?_
    refine rd_cutn 5 (d := 39) (v := vb ((decide (x2 < 0)) || (decide ((a0.length : Int) ≤ x2)))) ?_ ?_
    · intro S Q r
      cases b8 : (decide (x2 < 0))
      · intro k
        have a9 := b8
        try simp only [qa, qaD] at a9
        refine rd_yes rfl rfl (ov_move rfl) ?_
        refine rd_yes rfl rfl (ov_move rfl) ?_
        refine rd_yes rfl rfl (ov_bi rfl (sl_len a2 Try.underlying23 _)) ?_
        refine rd_yes rfl rfl (ov_bin rfl rfl i_geq) ?_
        exact gK rfl rfl rfl rfl rfl k
      · exact gN 4 rfl rfl rfl rfl rfl rfl
    refine nS ?_
    refine rc_br hres rfl ?_ ?_ <;> clear hres <;> intro c hres <;> try simp only [qa, qaD] at c
    · refine sR ?_
      refine rd_op (v := .agg [vs [], vi 0]) (ov_build (cs := [vs [], vi 0]) rfl rfl) ?_
      refine rd_storeO (k := 0) (v := .agg [vs [], vi 0]) a7 rfl rfl rfl rfl (fun d2 b5 => ?_)
      replace b5 : Mem d2 [⟨.op a3 a5 0, 115, 2, [.agg [vs [], vi 0]]⟩] := b5
      refine mB rfl ?_
      refine nS ?_
      subst hres
      exact rc_retV (.cell rfl (load_whole (k := 0) b5 rfl rfl) (.tmp rfl .nil)) (deep_closed (show closed (.tup _) = true from (clL_cons (TR.clo api_Field.t (show api_Field.t.R ({ Name := ([] : List UInt8), Width := 0 } : api_Field) (.agg [vs [], vi 0]) from rfl)) (clL_cons rfl clL_nil)))) ⟨.agg [vs [], vi 0], rfl, rfl⟩
    · refine rc_skip ?_
      refine pn_seq ?_
      refine sR ?_
      refine mV rfl ?_
      refine mV rfl ?_
      obtain ⟨b1, d5, a6⟩ := sl_idx (i := x2) a2 (by omega) (by omega)
      refine rd_op (ov_iaddr rfl rfl d5) ?_
      refine lD a6 rfl rfl rfl ?_
      refine rd_storeO (k := 0) (v := b1) a7 rfl rfl rfl (TR.cnt api_Field.t a6) (fun d6 b4 => ?_)
      replace b4 : Mem d6 [⟨.op a3 a5 0, 115, 2, [b1]⟩] := b4
      refine mB rfl ?_
      refine nS ?_
      subst hres
      exact rc_retV (.cell rfl (load_whole (k := 0) b4 rfl (TR.agg api_Field.t a6)) (.tmp rfl .nil)) (deep_closed (show closed (.tup _) = true from (clL_cons (TR.clo api_Field.t a6) (clL_cons rfl clL_nil)))) ⟨b1, rfl, a6⟩
  · intro J
    refine rc_br hres rfl ?_ ?_ <;> clear hres <;> intro c hres <;> try simp only [qa, qaD] at c
    · refine rc_seq ?_
      refine sR ?_
      refine mV rfl ?_
      refine bN i_lss rfl rfl ?_
      refine mV rfl ?_
      refine rd_cutn 7 (d := 23) (v := vb ((decide (x1 < 0)) || (decide ((x0.Program.Headers.length : Int) ≤ x1)))) ?_ ?_
      · intro S Q r
        cases b6 : (decide (x1 < 0))
        · intro k
          have b3 := b6
          try simp only [qa, qaD] at b3
          refine rd_yes rfl rfl (ov_move rfl) ?_
          obtain ⟨e9, d4, d7⟩ := expr_Scope.g_Program r0
          refine rd_yes rfl rfl (ov_faddr rfl d4) ?_
          obtain ⟨e4, c7, b0⟩ := api_Program.g_Headers d7
          refine rd_yes rfl rfl (ov_faddr rfl c7) ?_
          refine rd_yes rfl rfl (ov_load rfl (TR.cnt (tSl api_Header.t) b0) (TR.agg (tSl api_Header.t) b0)) ?_
          refine rd_yes rfl rfl (ov_bi rfl (sl_len b0 Try.underlying22 _)) ?_
          refine rd_yes rfl rfl (ov_bin rfl rfl i_geq) ?_
          exact gK rfl rfl rfl rfl rfl k
        · exact gN 6 rfl rfl rfl rfl rfl rfl
      refine nS ?_
      refine rc_br hres rfl ?_ ?_ <;> clear hres <;> intro c hres <;> try simp only [qa, qaD] at c
      · refine sR ?_
        refine rd_op (v := .agg [vs [], vi 0]) (ov_build (cs := [vs [], vi 0]) rfl rfl) ?_
        refine rd_storeO (k := 0) (v := .agg [vs [], vi 0]) a8 rfl rfl rfl rfl (fun d1 b2 => ?_)
        replace b2 : Mem d1 [⟨.op a3 a5 0, 115, 2, [.agg [vs [], vi 0]]⟩] := b2
        refine mB rfl ?_
        refine nS ?_
        subst hres
        exact rc_retV (.cell rfl (load_whole (k := 0) b2 rfl rfl) (.tmp rfl .nil)) (deep_closed (show closed (.tup _) = true from (clL_cons (TR.clo api_Field.t (show api_Field.t.R ({ Name := ([] : List UInt8), Width := 0 } : api_Field) (.agg [vs [], vi 0]) from rfl)) (clL_cons rfl clL_nil)))) ⟨.agg [vs [], vi 0], rfl, rfl⟩
      · refine rc_skip ?_
        refine pn_seq ?_
        refine rc_region ?_
        obtain ⟨e1, d0, d9⟩ := expr_Scope.g_Program r0
        refine fA rfl d0 ?_
        refine gL (api_Program.g_Headers d9) rfl rfl rfl fun e5 d8 => ?_
        refine mV rfl ?_
        obtain ⟨e0, c8, c9⟩ := sl_idx (i := x1) d8 (by omega) (by omega)
        refine rd_op (ov_iaddr rfl rfl c8) ?_
        refine gL (api_Header.g_Fields c9) rfl rfl rfl fun e7 c5 => ?_
        refine mV rfl ?_
        refine rd_nil ?_
        refine pn_seq (wC (J _ _ c5 _ (Mem.sub a8 (.cons_cons _ .slnil)) hres) rfl)
    · refine rc_skip ?_
      refine pn_seq (wC (J _ _ b9 _ (Mem.sub a8 (.cons_cons _ .slnil)) hres) rfl)

def RF87 (res : Int × Int) (r : PV) : Prop := r = .tup [vi res.1, vi res.2]
theorem f87_ok {x0 : expr_Scope} {x1 : api_ExprNode} {v0 v1 : PV} (r0 : expr_Scope.t.R x0 v0) (r1 : api_ExprNode.t.R x1 v1) : FnR Try.prog 87 [v0, v1] (.tup [vi ((m1_expr_Scope__primary x0 x1).1), vi ((m1_expr_Scope__primary x0 x1).2)]) := by
  refine fnS (R := RF87) text87 (fun _ h => h) rfl fun res hres => ?_
  unfold m1_expr_Scope__primary at hres
  refine sR ?_
  refine rd_op (ov_box rfl (TR.cnt expr_Scope.t r0)) ?_
  refine rd_op (ov_box rfl (TR.cnt api_ExprNode.t r1)) ?_
  refine mI rfl ?_
  refine mI rfl ?_
  refine nS ?_
  refine rc_seq ?_
  refine sR ?_
  refine fL rfl (api_ExprNode.g_Op r1) rfl rfl ?_
  refine nS ?_
  refine rc_block ?_
  refine sR ?_
  refine bN i_eql rfl rfl ?_
  refine mV rfl ?_
  refine nS ?_
  refine rc_br hres rfl ?_ ?_ <;> clear hres <;> intro c hres <;> try simp only [qa, qaD] at c
  · refine sR ?_
    refine fL rfl (api_ExprNode.g_W r1) rfl rfl ?_
    obtain ⟨a0, c4, hres⟩ := let_ex hres
    have b6 := f92_ok (x0 := x1.W)  
    rw [c4] at b6
    refine cL b6 rfl rfl (clL_cons rfl clL_nil) ?_
    refine mV rfl ?_
    refine xT rfl rfl ?_
    refine xT rfl rfl ?_
    refine mV rfl ?_
    refine mV rfl ?_
    refine nS ?_
    refine rc_seq ?_
    refine sR ?_
    refine mV rfl ?_
    refine bN i_eql rfl rfl ?_
    refine mV rfl ?_
    refine rd_cutn 12 (d := 34) (v := vb ((decide (a0.2 = 0)) && ((decide (x1.N < 0)) || (decide (((bitvec_Mask a0.1).toNat : Int) < x1.N))))) ?_ ?_
    · intro S Q r
      cases b5 : (decide (a0.2 = 0))
      · exact gN 11 rfl rfl rfl rfl rfl rfl
      · intro k
        have a3 := b5
        try simp only [qa, qaD] at a3
        refine rd_yes rfl rfl (ov_faddr rfl (api_ExprNode.g_N r1)) ?_
        refine rd_yes rfl rfl (ov_load rfl rfl rfl) ?_
        refine rd_yes rfl rfl (ov_bin rfl rfl i_lss) ?_
        refine rd_yes rfl rfl (ov_move rfl) ?_
        refine rd_cutn 7 (d := 33) (v := vb ((decide (x1.N < 0)) || (decide (((bitvec_Mask a0.1).toNat : Int) < x1.N)))) ?_ ?_
        · intro S Q r
          cases b3 : (decide (x1.N < 0))
          · intro k
            have a8 := b3
            try simp only [qa, qaD] at a8
            refine rd_yes rfl rfl (ov_faddr rfl (api_ExprNode.g_N r1)) ?_
            refine rd_yes rfl rfl (ov_load rfl rfl rfl) ?_
            refine rd_yes rfl rfl (ov_move rfl) ?_
            have d0 := f93_ok (x0 := a0.1)  
            refine rd_ycall rfl rfl (cv_fn rfl rfl (clL_cons rfl clL_nil) d0) ?_
            refine rd_yes rfl rfl (ov_conv (a := vu32 (bitvec_Mask a0.1)) rfl (c_wi Try.underlying147 Try.underlying3)) ?_
            refine rd_yes rfl rfl (ov_bin rfl rfl i_gtr) ?_
            refine rd_yes (v := vb (decide (((bitvec_Mask a0.1).toNat : Int) < x1.N))) rfl rfl (ov_pick rfl rfl rfl rfl) ?_
            exact wD k rfl
          · intro k
            refine rd_skip rfl rfl ?_
            refine rd_skip rfl rfl ?_
            refine rd_skip rfl rfl ?_
            refine rd_skip rfl rfl ?_
            refine rd_skip rfl rfl ?_
            refine rd_skip rfl rfl ?_
            refine rd_yes (v := vb true) rfl rfl (ov_pick rfl rfl rfl rfl) ?_
            exact wD k rfl
        exact gK rfl rfl rfl rfl rfl k
    refine nS ?_
    refine rc_br hres rfl ?_ ?_ <;> clear hres <;> intro c hres <;> try simp only [qa, qaD] at c
    · refine sR ?_
      refine mI rfl ?_
      refine mI rfl ?_
      refine nS ?_
      exact rT hres rfl rfl rfl rfl rfl
    · refine rc_skip ?_
      refine pn_seq ?_
      refine sR ?_
      refine mV rfl ?_
      refine mV rfl ?_
      refine mV rfl ?_
      refine mV rfl ?_
      refine nS ?_
      exact rT hres rfl rfl rfl rfl rfl
  · refine sR ?_
    refine bN i_eql rfl rfl ?_
    refine mV rfl ?_
    refine nS ?_
    refine rc_br hres rfl ?_ ?_ <;> clear hres <;> intro c hres <;> try simp only [qa, qaD] at c
    · refine sR ?_
      refine lD r0 rfl rfl rfl ?_
      refine fL rfl (api_ExprNode.g_N r1) rfl rfl ?_
      refine fL rfl (api_ExprNode.g_W r1) rfl rfl ?_
      obtain ⟨d1, b2, hres⟩ := let_ex hres
      obtain ⟨b1, b7, a1⟩ := f94_ok (x1 := x1.N) (x2 := x1.W) r0 
      rw [b2] at b7 a1
      refine cL b7 rfl rfl (clL_cons (TR.clo expr_Scope.t r0) (clL_cons rfl (clL_cons rfl clL_nil))) ?_
      refine mV rfl ?_
      refine xT rfl rfl ?_
      refine xT rfl rfl ?_
      refine rd_allocO (x := .agg [vs [], vi 0]) (Mem.nil ⟨0, []⟩) rfl rfl (fun d5 d2 e4 d8 => ?_)
      refine rd_storeO (k := 0) (v := b1) d8 rfl rfl rfl (TR.cnt api_Field.t a1) (fun c8 a7 => ?_)
      replace a7 : Mem c8 [⟨.op d5 d2 0, 115, 2, [b1]⟩] := a7
      refine mV rfl ?_
      refine nS ?_
      refine rc_seq ?_
      refine sR ?_
      refine mV rfl ?_
      refine rd_op (ov_not rfl) ?_
      refine nS ?_
      refine rc_br hres rfl ?_ ?_ <;> clear hres <;> intro c hres <;> try simp only [qa, qaD] at c
      · refine sR ?_
        refine mI rfl ?_
        refine mI rfl ?_
        refine nS ?_
        exact rT hres rfl rfl rfl rfl rfl
      · refine rc_skip ?_
        refine pn_seq ?_
        refine sR ?_
        refine rd_op (ov_faddrO rfl) ?_
        refine rd_op (ov_loadf (k := 0) a7 rfl rfl (api_Field.g_Width a1)) ?_
        obtain ⟨e6, b4, hres⟩ := let_ex hres
        have a9 := f92_ok (x0 := d1.1.Width)  
        rw [b4] at a9
        refine cL a9 rfl rfl (clL_cons rfl clL_nil) ?_
        refine xT rfl rfl ?_
        refine xT rfl rfl ?_
        refine mV rfl ?_
        refine mV rfl ?_
        refine nS ?_
        exact rT hres rfl rfl rfl rfl rfl
    · refine sR ?_
      refine bN i_eql rfl rfl ?_
      refine mV rfl ?_
      refine nS ?_
      refine rc_br hres rfl ?_ ?_ <;> clear hres <;> intro c hres <;> try simp only [qa, qaD] at c
      · refine rc_seq ?_
        refine sR ?_
        refine fL rfl (api_ExprNode.g_N r1) rfl rfl ?_
        refine bN i_lss rfl rfl ?_
        refine mV rfl ?_
        refine rd_cutn 7 (d := 67) (v := vb ((decide (x1.N < 0)) || (decide ((x0.Params.length : Int) ≤ x1.N)))) ?_ ?_
        · intro S Q r
          cases c5 : (decide (x1.N < 0))
          · intro k
            have a4 := c5
            try simp only [qa, qaD] at a4
            refine rd_yes rfl rfl (ov_faddr rfl (api_ExprNode.g_N r1)) ?_
            refine rd_yes rfl rfl (ov_load rfl rfl rfl) ?_
            obtain ⟨e0, c6, a2⟩ := expr_Scope.g_Params r0
            refine rd_yes rfl rfl (ov_faddr rfl c6) ?_
            refine rd_yes rfl rfl (ov_load rfl (TR.cnt (tSl api_Field.t) a2) (TR.agg (tSl api_Field.t) a2)) ?_
            refine rd_yes rfl rfl (ov_bi rfl (sl_len a2 Try.underlying23 _)) ?_
            refine rd_yes rfl rfl (ov_bin rfl rfl i_geq) ?_
            exact gK rfl rfl rfl rfl rfl k
          · exact gN 6 rfl rfl rfl rfl rfl rfl
        refine nS ?_
        refine rc_br hres rfl ?_ ?_ <;> clear hres <;> intro c hres <;> try simp only [qa, qaD] at c
        · refine sR ?_
          refine mI rfl ?_
          refine mI rfl ?_
          refine nS ?_
          exact rT hres rfl rfl rfl rfl rfl
        · refine rc_skip ?_
          refine pn_seq ?_
          refine sR ?_
          refine gL (expr_Scope.g_Params r0) rfl rfl rfl fun e1 c9 => ?_
          refine fL rfl (api_ExprNode.g_N r1) rfl rfl ?_
          obtain ⟨e2, d6, d7⟩ := sl_idx (i := x1.N) c9 (by omega) (by omega)
          refine rd_op (ov_iaddr rfl rfl d6) ?_
          refine fL rfl (api_Field.g_Width d7) rfl rfl ?_
          obtain ⟨e3, b9, hres⟩ := let_ex hres
          have b8 := f92_ok (x0 := (ix x0.Params x1.N).Width)  
          rw [b9] at b8
          refine cL b8 rfl rfl (clL_cons rfl clL_nil) ?_
          refine xT rfl rfl ?_
          refine xT rfl rfl ?_
          refine mV rfl ?_
          refine mV rfl ?_
          refine nS ?_
          exact rT hres rfl rfl rfl rfl rfl
      · refine rc_skip ?_
        refine pn_blk ?_
        refine pn_seq ?_
        refine rc_seq ?_
        refine sR ?_
        refine fL rfl (api_ExprNode.g_N r1) rfl rfl ?_
        refine bN i_lss rfl rfl ?_
        refine mV rfl ?_
        refine rd_cutn 8 (d := 89) (v := vb ((decide (x1.N < 0)) || (decide ((x0.Program.Headers.length : Int) ≤ x1.N)))) ?_ ?_
        · intro S Q r
          cases b0 : (decide (x1.N < 0))
          · intro k
            have a6 := b0
            try simp only [qa, qaD] at a6
            refine rd_yes rfl rfl (ov_faddr rfl (api_ExprNode.g_N r1)) ?_
            refine rd_yes rfl rfl (ov_load rfl rfl rfl) ?_
            obtain ⟨d9, d3, d4⟩ := expr_Scope.g_Program r0
            refine rd_yes rfl rfl (ov_faddr rfl d3) ?_
            obtain ⟨e5, c7, a5⟩ := api_Program.g_Headers d4
            refine rd_yes rfl rfl (ov_faddr rfl c7) ?_
            refine rd_yes rfl rfl (ov_load rfl (TR.cnt (tSl api_Header.t) a5) (TR.agg (tSl api_Header.t) a5)) ?_
            refine rd_yes rfl rfl (ov_bi rfl (sl_len a5 Try.underlying22 _)) ?_
            refine rd_yes rfl rfl (ov_bin rfl rfl i_geq) ?_
            exact gK rfl rfl rfl rfl rfl k
          · exact gN 7 rfl rfl rfl rfl rfl rfl
        refine nS ?_
        refine rc_br hres rfl ?_ ?_ <;> clear hres <;> intro c hres <;> try simp only [qa, qaD] at c
        · refine sR ?_
          refine mI rfl ?_
          refine mI rfl ?_
          refine nS ?_
          exact rT hres rfl rfl rfl rfl rfl
        · refine rc_skip ?_
          refine pn_seq ?_
          refine sR ?_
          refine mI rfl ?_
          refine mI rfl ?_
          refine nS ?_
          exact rT hres rfl rfl rfl rfl rfl

def RF88 (res : Int × Int) (r : PV) : Prop := r = .tup [vi res.1, vi res.2]
theorem f88_ok {x0 : api_ExprNode} {x1 : List Int} {v0 v1 : PV} (r0 : api_ExprNode.t.R x0 v0) (r1 : (tAr 3 tI).R x1 v1) : FnR Try.prog 88 [v0, v1] (.tup [vi ((expr_combine x0 x1).1), vi ((expr_combine x0 x1).2)]) := by
  refine fnS (R := RF88) text88 (fun _ h => h) rfl fun res hres => ?_
  unfold expr_combine at hres
  refine sR ?_
  refine rd_op (ov_box rfl (TR.cnt api_ExprNode.t r0)) ?_
  refine rd_op (ov_box rfl (TR.cnt (tAr 3 tI) r1)) ?_
  refine mI rfl ?_
  refine mI rfl ?_
  refine nS ?_
  refine rc_seq ?_
  refine sR ?_
  refine fL rfl (api_ExprNode.g_Op r0) rfl rfl ?_
  refine nS ?_
  refine rc_block ?_
  refine rc_seq ?_
  refine sR ?_
  refine bN i_eql rfl rfl ?_
  refine mV rfl ?_
  refine nS ?_
  obtain ⟨g1, e3, hres⟩ := let_ex hres
  refine rc_join (F := fun b S Q => ∀ (a0 : Bool), g1 a0 = res → RC Try.prog b S Q [(10, vb a0), (9, vi x0.Op), (3, .fp v1), (2, .fp v0)] ⟨0, []⟩) ?_ ?_
  · intro a0  hres
    rw [← e3] at hres
    refine rc_br hres rfl ?_ ?_ <;> clear hres <;> intro c hres <;> try simp only [qa, qaD] at c
    · refine sR ?_
      refine fL rfl (api_ExprNode.g_N r0) rfl rfl ?_
      refine bN i_lss rfl rfl ?_
      refine mV rfl ?_
      refine rd_cutn 4 (d := 20) (v := vb ((decide (x0.N < 0)) || (decide (31 < x0.N)))) ?_ ?_
      · intro S Q r
        cases c7 : (decide (x0.N < 0))
        · intro k
          have c4 := c7
          try simp only [qa, qaD] at c4
          refine rd_yes rfl rfl (ov_faddr rfl (api_ExprNode.g_N r0)) ?_
          refine rd_yes rfl rfl (ov_load rfl rfl rfl) ?_
          refine rd_yes rfl rfl (ov_bin rfl rfl i_gtr) ?_
          exact gK rfl rfl rfl rfl rfl k
        · exact gN 3 rfl rfl rfl rfl rfl rfl
      refine nS ?_
      refine rc_br hres rfl ?_ ?_ <;> clear hres <;> intro c hres <;> try simp only [qa, qaD] at c
      · refine sR ?_
        refine mI rfl ?_
        refine mI rfl ?_
        refine nS ?_
        exact rT hres rfl rfl rfl rfl rfl
      · refine rc_skip ?_
        refine pn_blk ?_
        refine pn_seq ?_
        refine rc_seq ?_
        refine sR ?_
        refine fL rfl (api_ExprNode.g_Op r0) rfl rfl ?_
        obtain ⟨d2, d4, hres⟩ := let_ex hres
        have e1 := f86_ok (x0 := x0.Op)  
        rw [d4] at e1
        refine cL e1 rfl rfl (clL_cons rfl clL_nil) ?_
        refine bN i_eql rfl rfl ?_
        refine mV rfl ?_
        refine rd_cutn 6 (d := 80) (v := vb ((decide (d2 = 2)) && (!decide ((ix x1 0) = (ix x1 1))))) ?_ ?_
        · intro S Q r
          cases d3 : (decide (d2 = 2))
          · exact gN 5 rfl rfl rfl rfl rfl rfl
          · intro k
            have a5 := d3
            try simp only [qa, qaD] at a5
            obtain ⟨g4, e7, a1⟩ := arr_addr (t := tI) r1 (i := 0) (by omega) (by omega)
            have a1 : g4 = vi (ix x1 0) := a1; subst a1
            refine rd_yes rfl rfl (ov_iaddrA rfl rfl e7) ?_
            refine rd_yes rfl rfl (ov_load rfl rfl rfl) ?_
            obtain ⟨e4, f3, b3⟩ := arr_addr (t := tI) r1 (i := 1) (by omega) (by omega)
            have b3 : e4 = vi (ix x1 1) := b3; subst b3
            refine rd_yes rfl rfl (ov_iaddrA rfl rfl f3) ?_
            refine rd_yes rfl rfl (ov_load rfl rfl rfl) ?_
            refine rd_yes rfl rfl (ov_bin rfl rfl i_neq) ?_
            exact gK rfl rfl rfl rfl rfl k
        refine nS ?_
        refine rc_br hres rfl ?_ ?_ <;> clear hres <;> intro c hres <;> try simp only [qa, qaD] at c
        · refine sR ?_
          refine mI rfl ?_
          refine mI rfl ?_
          refine nS ?_
          exact rT hres rfl rfl rfl rfl rfl
        · refine rc_skip ?_
          refine pn_seq ?_
          refine rc_seq ?_
          refine sR ?_
          refine fL rfl (api_ExprNode.g_Op r0) rfl rfl ?_
          refine bN i_eql rfl rfl ?_
          refine mV rfl ?_
          refine rd_cutn 4 (d := 88) (v := vb ((decide (x0.Op = 15)) || (decide (x0.Op = 16)))) ?_ ?_
          · intro S Q r
            cases d7 : (decide (x0.Op = 15))
            · intro k
              have a7 := d7
              try simp only [qa, qaD] at a7
              refine rd_yes rfl rfl (ov_faddr rfl (api_ExprNode.g_Op r0)) ?_
              refine rd_yes rfl rfl (ov_load rfl rfl rfl) ?_
              refine rd_yes rfl rfl (ov_bin rfl rfl i_eql) ?_
              exact gK rfl rfl rfl rfl rfl k
            · exact gN 3 rfl rfl rfl rfl rfl rfl
          refine nS ?_
          refine rc_br hres rfl ?_ ?_ <;> clear hres <;> intro c hres <;> try simp only [qa, qaD] at c
          · refine sR ?_
            refine mI rfl ?_
            refine mI rfl ?_
            refine nS ?_
            exact rT hres rfl rfl rfl rfl rfl
          · refine rc_skip ?_
            refine pn_seq ?_
            refine sR ?_
            obtain ⟨h0, f6, b6⟩ := arr_addr (t := tI) r1 (i := 0) (by omega) (by omega)
            have b6 : h0 = vi (ix x1 0) := b6; subst b6
            refine rd_op (ov_iaddrA rfl rfl f6) ?_
            refine lR rfl rfl rfl ?_
            refine mV rfl ?_
            refine mI rfl ?_
            refine nS ?_
            exact rT hres rfl rfl rfl rfl rfl
    · refine sR ?_
      refine bN i_eql rfl rfl ?_
      refine mV rfl ?_
      refine nS ?_
      refine rc_br hres rfl ?_ ?_ <;> clear hres <;> intro c hres <;> try simp only [qa, qaD] at c
      · refine rc_seq ?_
        refine sR ?_
        refine fL rfl (api_ExprNode.g_N r0) rfl rfl ?_
        refine bN i_lss rfl rfl ?_
        refine nS ?_
        refine rc_br hres rfl ?_ ?_ <;> clear hres <;> intro c hres <;> try simp only [qa, qaD] at c
        · refine sR ?_
          refine mI rfl ?_
          refine mI rfl ?_
          refine nS ?_
          exact rT hres rfl rfl rfl rfl rfl
        · refine rc_skip ?_
          refine pn_seq ?_
          refine rc_seq ?_
          refine sR ?_
          refine fL rfl (api_ExprNode.g_W r0) rfl rfl ?_
          obtain ⟨d6, c8, hres⟩ := let_ex hres
          have d0 := f92_ok (x0 := x0.W)  
          rw [c8] at d0
          refine cL d0 rfl rfl (clL_cons rfl clL_nil) ?_
          refine mV rfl ?_
          refine xT rfl rfl ?_
          refine xT rfl rfl ?_
          refine mV rfl ?_
          refine mV rfl ?_
          refine nR ?_
          refine mV rfl ?_
          refine bN i_neq rfl rfl ?_
          refine mV rfl ?_
          refine rd_cutn 9 (d := 43) (v := vb ((!decide (d6.2 = 0)) || (decide ((wr ((ix x1 0) - x0.W)) < x0.N)))) ?_ ?_
          · intro S Q r
            cases d5 : (!decide (d6.2 = 0))
            · intro k
              have a4 := d5
              try simp only [qa, qaD] at a4
              refine rd_yes rfl rfl (ov_faddr rfl (api_ExprNode.g_N r0)) ?_
              refine rd_yes rfl rfl (ov_load rfl rfl rfl) ?_
              obtain ⟨f1, e8, a9⟩ := arr_addr (t := tI) r1 (i := 0) (by omega) (by omega)
              have a9 : f1 = vi (ix x1 0) := a9; subst a9
              refine rd_yes rfl rfl (ov_iaddrA rfl rfl e8) ?_
              refine rd_yes rfl rfl (ov_load rfl rfl rfl) ?_
              refine rd_yes rfl rfl (ov_faddr rfl (api_ExprNode.g_W r0)) ?_
              refine rd_yes rfl rfl (ov_load rfl rfl rfl) ?_
              refine rd_yes rfl rfl (ov_bin rfl rfl i_sub) ?_
              refine rd_yes rfl rfl (ov_bin rfl rfl i_gtr) ?_
              exact gK rfl rfl rfl rfl rfl k
            · exact gN 8 rfl rfl rfl rfl rfl rfl
          refine nS ?_
          refine rc_br hres rfl ?_ ?_ <;> clear hres <;> intro c hres <;> try simp only [qa, qaD] at c
          · refine sR ?_
            refine mI rfl ?_
            refine mI rfl ?_
            refine nS ?_
            exact rT hres rfl rfl rfl rfl rfl
          · refine rc_skip ?_
            refine pn_seq ?_
            refine sR ?_
            refine fL rfl (api_ExprNode.g_W r0) rfl rfl ?_
            refine mV rfl ?_
            refine mI rfl ?_
            refine nS ?_
            exact rT hres rfl rfl rfl rfl rfl
      · refine sR ?_
        refine bN i_eql rfl rfl ?_
        refine mV rfl ?_
        refine nS ?_
        refine rc_br hres rfl ?_ ?_ <;> clear hres <;> intro c hres <;> try simp only [qa, qaD] at c
        · refine sR ?_
          obtain ⟨g3, g5, b4⟩ := arr_addr (t := tI) r1 (i := 0) (by omega) (by omega)
          have b4 : g3 = vi (ix x1 0) := b4; subst b4
          refine rd_op (ov_iaddrA rfl rfl g5) ?_
          refine lR rfl rfl rfl ?_
          obtain ⟨g0, f5, a3⟩ := arr_addr (t := tI) r1 (i := 1) (by omega) (by omega)
          have a3 : g0 = vi (ix x1 1) := a3; subst a3
          refine rd_op (ov_iaddrA rfl rfl f5) ?_
          refine lR rfl rfl rfl ?_
          refine bN i_add rfl rfl ?_
          obtain ⟨h1, e0, hres⟩ := let_ex hres
          have c5 := f92_ok (x0 := (wr ((ix x1 0) + (ix x1 1))))  
          rw [e0] at c5
          refine cL c5 rfl rfl (clL_cons rfl clL_nil) ?_
          refine xT rfl rfl ?_
          refine xT rfl rfl ?_
          refine mV rfl ?_
          refine mV rfl ?_
          refine nS ?_
          exact rT hres rfl rfl rfl rfl rfl
        · refine sR ?_
          refine bN i_eql rfl rfl ?_
          refine mV rfl ?_
          refine nS ?_
          refine rc_br hres rfl ?_ ?_ <;> clear hres <;> intro c hres <;> try simp only [qa, qaD] at c
          · refine rc_seq ?_
            refine sR ?_
            obtain ⟨f4, f7, a2⟩ := arr_addr (t := tI) r1 (i := 0) (by omega) (by omega)
            have a2 : f4 = vi (ix x1 0) := a2; subst a2
            refine rd_op (ov_iaddrA rfl rfl f7) ?_
            refine lR rfl rfl rfl ?_
            refine bN i_neq rfl rfl ?_
            refine mV rfl ?_
            refine rd_cutn 6 (d := 67) (v := vb ((!decide ((ix x1 0) = 1)) || (!decide ((ix x1 1) = (ix x1 2))))) ?_ ?_
            · intro S Q r
              cases d1 : (!decide ((ix x1 0) = 1))
              · intro k
                have b2 := d1
                try simp only [qa, qaD] at b2
                obtain ⟨g2, g7, b8⟩ := arr_addr (t := tI) r1 (i := 1) (by omega) (by omega)
                have b8 : g2 = vi (ix x1 1) := b8; subst b8
                refine rd_yes rfl rfl (ov_iaddrA rfl rfl g7) ?_
                refine rd_yes rfl rfl (ov_load rfl rfl rfl) ?_
                obtain ⟨g8, e9, a8⟩ := arr_addr (t := tI) r1 (i := 2) (by omega) (by omega)
                have a8 : g8 = vi (ix x1 2) := a8; subst a8
                refine rd_yes rfl rfl (ov_iaddrA rfl rfl e9) ?_
                refine rd_yes rfl rfl (ov_load rfl rfl rfl) ?_
                refine rd_yes rfl rfl (ov_bin rfl rfl i_neq) ?_
                exact gK rfl rfl rfl rfl rfl k
              · exact gN 5 rfl rfl rfl rfl rfl rfl
            refine nS ?_
            refine rc_br hres rfl ?_ ?_ <;> clear hres <;> intro c hres <;> try simp only [qa, qaD] at c
            · refine sR ?_
              refine mI rfl ?_
              refine mI rfl ?_
              refine nS ?_
              exact rT hres rfl rfl rfl rfl rfl
            · refine rc_skip ?_
              refine pn_seq ?_
              refine sR ?_
              obtain ⟨f0, f8, b9⟩ := arr_addr (t := tI) r1 (i := 1) (by omega) (by omega)
              have b9 : f0 = vi (ix x1 1) := b9; subst b9
              refine rd_op (ov_iaddrA rfl rfl f8) ?_
              refine lR rfl rfl rfl ?_
              refine mV rfl ?_
              refine mI rfl ?_
              refine nS ?_
              exact rT hres rfl rfl rfl rfl rfl
          · refine rc_skip ?_
            refine pn_blk ?_
            refine pn_seq ?_
            refine rc_seq ?_
            refine sR ?_
            refine fL rfl (api_ExprNode.g_Op r0) rfl rfl ?_
            obtain ⟨c9, d9, hres⟩ := let_ex hres
            have e2 := f86_ok (x0 := x0.Op)  
            rw [d9] at e2
            refine cL e2 rfl rfl (clL_cons rfl clL_nil) ?_
            refine bN i_eql rfl rfl ?_
            refine mV rfl ?_
            refine rd_cutn 6 (d := 80) (v := vb ((decide (c9 = 2)) && (!decide ((ix x1 0) = (ix x1 1))))) ?_ ?_
            · intro S Q r
              cases c6 : (decide (c9 = 2))
              · exact gN 5 rfl rfl rfl rfl rfl rfl
              · intro k
                have a6 := c6
                try simp only [qa, qaD] at a6
                obtain ⟨f2, g6, b7⟩ := arr_addr (t := tI) r1 (i := 0) (by omega) (by omega)
                have b7 : f2 = vi (ix x1 0) := b7; subst b7
                refine rd_yes rfl rfl (ov_iaddrA rfl rfl g6) ?_
                refine rd_yes rfl rfl (ov_load rfl rfl rfl) ?_
                obtain ⟨e6, g9, b5⟩ := arr_addr (t := tI) r1 (i := 1) (by omega) (by omega)
                have b5 : e6 = vi (ix x1 1) := b5; subst b5
                refine rd_yes rfl rfl (ov_iaddrA rfl rfl g9) ?_
                refine rd_yes rfl rfl (ov_load rfl rfl rfl) ?_
                refine rd_yes rfl rfl (ov_bin rfl rfl i_neq) ?_
                exact gK rfl rfl rfl rfl rfl k
            refine nS ?_
            refine rc_br hres rfl ?_ ?_ <;> clear hres <;> intro c hres <;> try simp only [qa, qaD] at c
            · refine sR ?_
              refine mI rfl ?_
              refine mI rfl ?_
              refine nS ?_
              exact rT hres rfl rfl rfl rfl rfl
            · refine rc_skip ?_
              refine pn_seq ?_
              refine rc_seq ?_
              refine sR ?_
              refine fL rfl (api_ExprNode.g_Op r0) rfl rfl ?_
              refine bN i_eql rfl rfl ?_
              refine mV rfl ?_
              refine rd_cutn 4 (d := 88) (v := vb ((decide (x0.Op = 15)) || (decide (x0.Op = 16)))) ?_ ?_
              · intro S Q r
                cases d8 : (decide (x0.Op = 15))
                · intro k
                  have b1 := d8
                  try simp only [qa, qaD] at b1
                  refine rd_yes rfl rfl (ov_faddr rfl (api_ExprNode.g_Op r0)) ?_
                  refine rd_yes rfl rfl (ov_load rfl rfl rfl) ?_
                  refine rd_yes rfl rfl (ov_bin rfl rfl i_eql) ?_
                  exact gK rfl rfl rfl rfl rfl k
                · exact gN 3 rfl rfl rfl rfl rfl rfl
              refine nS ?_
              refine rc_br hres rfl ?_ ?_ <;> clear hres <;> intro c hres <;> try simp only [qa, qaD] at c
              · refine sR ?_
                refine mI rfl ?_
                refine mI rfl ?_
                refine nS ?_
                exact rT hres rfl rfl rfl rfl rfl
              · refine rc_skip ?_
                refine pn_seq ?_
                refine sR ?_
                obtain ⟨e5, f9, b0⟩ := arr_addr (t := tI) r1 (i := 0) (by omega) (by omega)
                have b0 : e5 = vi (ix x1 0) := b0; subst b0
                refine rd_op (ov_iaddrA rfl rfl f9) ?_
                refine lR rfl rfl rfl ?_
                refine mV rfl ?_
                refine mI rfl ?_
                refine nS ?_
                exact rT hres rfl rfl rfl rfl rfl
  · intro J
    refine rc_br hres rfl ?_ ?_ <;> clear hres <;> intro c hres <;> try simp only [qa, qaD] at c
    · refine rc_skip ?_
      refine pn_seq (wC (J _  hres) rfl)
    · refine rc_region ?_
      refine bN i_eql rfl rfl ?_
      refine mV rfl ?_
      refine rd_nil ?_
      refine pn_seq (wC (J _  hres) rfl)

def RF84 (res : Int × Int × Int) (r : PV) : Prop := r = .tup [vi res.1, vi res.2.1, vi res.2.2]
theorem m1_expr_Scope__check_L1_ok {S : List Fr} {res : Int × Int × Int} {x0 : expr_Scope} {x1 : List api_ExprNode} {x2 : Int} {rec_ : expr_Scope → (List api_ExprNode) → Int → (Int × Int × Int)} {mu_ : Nat} {a8 : Int} {v0 v1 : PV} {a6 a9 : Nat} (r0 : expr_Scope.t.R x0 v0) (r1 : (tSl api_ExprNode.t).R x1 v1) (h0 : 0 ≤ x2) (hb : x1.length ≤ 1000000) (ihR : ∀ {z0 : expr_Scope} {z1 : List api_ExprNode} {z2 : Int} {d5 d1 : PV} (d7 : expr_Scope.t.R z0 d5) (d8 : (tSl api_ExprNode.t).R z1 d1) (h0 : 0 ≤ z2) (hb : z1.length ≤ 1000000), (z1.length - z2.toNat) < mu_ → FnR Try.prog 84 [d5, d1, vi z2] (.tup [vi ((rec_ z0 z1 z2).1), vi ((rec_ z0 z1 z2).2.1), vi ((rec_ z0 z1 z2).2.2)])) (hmu : mu_ = (x1.length - x2.toNat)) (hrec : ∀ (z0 : expr_Scope) (z1 : List api_ExprNode) (z2 : Int), 0 ≤ z2 → z1.length ≤ 1000000 → (rec_ z0 z1 z2).2.2 = 0 → z2 < (rec_ z0 z1 z2).2.1) (c8 : (decide ((x1.length : Int) ≤ x2)) = false) (d2 : expr_arity ((ix x1 x2).Op) = a8) (c6 : (decide (a8 < 0)) = false) (c9 : (decide (a8 = 0)) = false) {K1 : Int → (List Int) → (Int × Int × Int)}
    (d6 : ∀ {b0 : Int} {a2 : List Int} {a1 : PV} (a3 : (tAr 3 tI).R a2 a1) {h : Heap} (M0 : Mem h [⟨.op a6 a9 0, 142, 3, [a1]⟩]), K1 b0 a2 = res → PX Try.prog 1 S (QR Try.prog [(6, none), (7, none), (8, none)] (RF84 res)) [(1, v1), (2, vi x2), (7, vi b0), (10, .op a6 a9 0)] h) :
    ∀ {m : Nat} {b0 a0 : Int} {a2 : List Int} {a1 : PV} (a3 : (tAr 3 tI).R a2 a1) (d3 : m = Int.toNat (a8 - a0)) (b8 : 0 ≤ a0) (b2 : x2 < b0) {h : Heap} (M0 : Mem h [⟨.op a6 a9 0, 142, 3, [a1]⟩]), m1_expr_Scope__check_L1 x0 x1 rec_ K1 m b0 a0 a2 = res → RC Try.prog (.loop ac84_L1) S (QR Try.prog [(6, none), (7, none), (8, none)] (RF84 res)) [(44, vi a0), (43, vi a8), (10, .op a6 a9 0), (7, vi b0), (3, .fp v0), (2, vi x2), (1, v1)] h := by
  have hb' := hb
  try simp only [qa, qaD] at hb'
  have b5 := c8
  try simp only [qa, qaD] at b5
  have b4 := c6
  try simp only [qa, qaD] at b4
  have b6 := c9
  try simp only [qa, qaD] at b6
  intro m
  induction m with
  | zero =>
    intro b0 a0 a2 a1 a3 d3 b8 b2 h M0 hres
    rw [m1_expr_Scope__check_L1] at hres
    refine rc_loop ?_
    refine sR ?_
    refine bN i_lss rfl rfl ?_
    refine nS ?_
    refine rc_seq ?_
    refine rc_cond rfl ?_ ?_ <;> intro c <;> try simp only [qa, qaD] at c
    · omega
    refine rc_exit ?_
    refine px_seq ?_
    refine px_again ?_
    exact wP (d6 a3 (Mem.sub M0 (.cons_cons _ .slnil)) hres) rfl
  | succ m ih =>
    intro b0 a0 a2 a1 a3 d3 b8 b2 h M0 hres
    rw [m1_expr_Scope__check_L1] at hres
    refine rc_loop ?_
    refine sR ?_
    refine bN i_lss rfl rfl ?_
    refine nS ?_
    refine rc_seq ?_
    refine rc_cond rfl ?_ ?_ <;> intro c <;> try simp only [qa, qaD] at c
    rotate_left
    · omega
    refine rc_skip ?_
    refine pn_seq ?_
    refine rc_seq ?_
    refine rc_block ?_
    refine sR ?_
    refine mV rfl ?_
    refine mV rfl ?_
    refine nR ?_
    refine mV rfl ?_
    refine lD r0 rfl rfl rfl ?_
    refine mV rfl ?_
    refine mV rfl ?_
    obtain ⟨a4, b3, hres⟩ := let_ex hres
    have b9 := ihR (z0 := x0) (z1 := x1) (z2 := b0) r0 r1 (by first | assumption | omega) (by first | assumption | omega) (by first | omega | (rw [wr_of (by omega) (by omega)]; omega))
    rw [b3] at b9
    have d4 : a4.2.2 = 0 → b0 < a4.2.1 := by rw [← b3]; exact hrec _ _ _ (by omega) (by omega)
    refine cL b9 rfl rfl (clL_cons (TR.clo expr_Scope.t r0) (clL_cons (TR.clo (tSl api_ExprNode.t) r1) (clL_cons rfl clL_nil))) ?_
    refine mV rfl ?_
    refine xT rfl rfl ?_
    refine xT rfl rfl ?_
    refine xT rfl rfl ?_
    have a5 : 0 ≤ a0 := by first | omega | (have hk := ar (by assumption); omega)
    have a7 : a0 < 3 := by first | omega | (have hk := ar (by assumption); omega)
    refine rd_op (ov_iaddrAO rfl rfl a5 a7) ?_
    obtain ⟨c7, c5, b1, c4⟩ := arr_store (t := tI) (i := a0) a3 a5 a7 (show tI.R a4.1 (vi a4.1) from rfl) rfl
    refine rd_storeFA (k := 0) (v := vi a4.1) M0 rfl rfl rfl c5 rfl b1.1 b1.2 (fun d0 b7 => ?_)
    replace b7 : Mem d0 [⟨.op a6 a9 0, 142, 3, [.agg (spl c7 (a0.toNat * 1) [vi a4.1])]⟩] := b7
    refine mV rfl ?_
    refine mV rfl ?_
    refine nR ?_
    refine mV rfl ?_
    refine bN i_neq rfl rfl ?_
    refine nS ?_
    refine rc_br hres rfl ?_ ?_ <;> clear hres <;> intro c hres <;> try simp only [qa, qaD] at c
    · refine sR ?_
      refine mV rfl ?_
      refine mI rfl ?_
      refine mI rfl ?_
      refine mV rfl ?_
      refine nS ?_
      subst hres
      exact rc_retV (.tmp rfl (.tmp rfl (.tmp rfl .nil))) (deep_closed (show closed (.tup _) = true from (clL_cons rfl (clL_cons rfl (clL_cons rfl clL_nil))))) rfl
    · refine rc_skip ?_
      refine pn_blk ?_
      refine pn_seq ?_
      refine rc_region ?_
      refine bN i_add rfl rfl ?_
      refine mV rfl ?_
      refine rd_nil ?_
      refine pn_again ?_
      have hinc : wr (a0 + 1) = a0 + 1 := wr_of (by omega) (by first | omega | (have hk := ar (by assumption); omega))
      erw [hinc]
      exact wC (ih  c4 (by omega) (by omega) (by first | omega | (simp; done) | (simp only [List.length_append, List.length_cons, List.length_nil, List.length_set]; omega)) (Mem.sub b7 (.cons_cons _ .slnil)) hres) rfl

theorem f84_okB {rec_ : expr_Scope → (List api_ExprNode) → Int → (Int × Int × Int)} {mu_ : Nat} {x0 : expr_Scope} {x1 : List api_ExprNode} {x2 : Int} {v0 v1 : PV} (r0 : expr_Scope.t.R x0 v0) (r1 : (tSl api_ExprNode.t).R x1 v1) (h0 : 0 ≤ x2) (hb : x1.length ≤ 1000000) (hmu : mu_ = (x1.length - x2.toNat)) (hrec : ∀ (z0 : expr_Scope) (z1 : List api_ExprNode) (z2 : Int), 0 ≤ z2 → z1.length ≤ 1000000 → (rec_ z0 z1 z2).2.2 = 0 → z2 < (rec_ z0 z1 z2).2.1) (ihR : ∀ {z0 : expr_Scope} {z1 : List api_ExprNode} {z2 : Int} {c9 c8 : PV} (e0 : expr_Scope.t.R z0 c9) (e1 : (tSl api_ExprNode.t).R z1 c8) (h0 : 0 ≤ z2) (hb : z1.length ≤ 1000000), (z1.length - z2.toNat) < mu_ → FnR Try.prog 84 [c9, c8, vi z2] (.tup [vi ((rec_ z0 z1 z2).1), vi ((rec_ z0 z1 z2).2.1), vi ((rec_ z0 z1 z2).2.2)])) : FnR Try.prog 84 [v0, v1, vi x2] (.tup [vi ((m1_expr_Scope__check_B rec_ x0 x1 x2).1), vi ((m1_expr_Scope__check_B rec_ x0 x1 x2).2.1), vi ((m1_expr_Scope__check_B rec_ x0 x1 x2).2.2)]) := by
  refine fnS (R := RF84) text84 (fun _ h => h) rfl fun res hres => ?_
  unfold m1_expr_Scope__check_B at hres
  refine sR ?_
  refine rd_op (ov_box rfl (TR.cnt expr_Scope.t r0)) ?_
  refine mI rfl ?_
  refine mI rfl ?_
  refine mI rfl ?_
  refine nS ?_
  refine rc_seq ?_
  refine sR ?_
  refine mV rfl ?_
  refine mV rfl ?_
  refine rd_op (ov_bi rfl (sl_len r1 Try.underlying38 _)) ?_
  refine bN i_geq rfl rfl ?_
  refine nS ?_
  refine rc_br hres rfl ?_ ?_ <;> clear hres <;> intro a3 hres <;> have a8 := a3 <;> try simp only [qa, qaD] at a8
  · refine sR ?_
    refine mI rfl ?_
    refine mI rfl ?_
    refine mI rfl ?_
    refine nS ?_
    subst hres
    exact rc_retV (.tmp rfl (.tmp rfl (.tmp rfl .nil))) (deep_closed (show closed (.tup _) = true from (clL_cons rfl (clL_cons rfl (clL_cons rfl clL_nil))))) rfl
  · refine rc_skip ?_
    refine pn_seq ?_
    refine sR ?_
    refine mV rfl ?_
    refine mV rfl ?_
    obtain ⟨d4, b9, c5⟩ := sl_idx (i := x2) r1 (by omega) (by omega)
    refine rd_op (ov_iaddr rfl rfl b9) ?_
    refine fL rfl (api_ExprNode.g_Op c5) rfl rfl ?_
    obtain ⟨d8, a2, hres⟩ := let_ex hres
    have b4 := f86_ok (x0 := (ix x1 x2).Op)  
    rw [a2] at b4
    refine cL b4 rfl rfl (clL_cons rfl clL_nil) ?_
    refine mV rfl ?_
    refine nS ?_
    refine rc_seq ?_
    refine rc_block ?_
    refine sR ?_
    refine mV rfl ?_
    refine bN i_lss rfl rfl ?_
    refine mV rfl ?_
    refine nS ?_
    refine rc_br hres rfl ?_ ?_ <;> clear hres <;> intro a1 hres <;> have a6 := a1 <;> try simp only [qa, qaD] at a6
    · refine sR ?_
      refine mI rfl ?_
      refine mI rfl ?_
      refine mI rfl ?_
      refine nS ?_
      subst hres
      exact rc_retV (.tmp rfl (.tmp rfl (.tmp rfl .nil))) (deep_closed (show closed (.tup _) = true from (clL_cons rfl (clL_cons rfl (clL_cons rfl clL_nil))))) rfl
    · refine sR ?_
      refine mV rfl ?_
      refine bN i_eql rfl rfl ?_
      refine mV rfl ?_
      refine nS ?_
      refine rc_br hres rfl ?_ ?_ <;> clear hres <;> intro a4 hres <;> have a9 := a4 <;> try simp only [qa, qaD] at a9
      · refine sR ?_
        refine lD r0 rfl rfl rfl ?_
        refine mV rfl ?_
        refine mV rfl ?_
        obtain ⟨d1, c4, a7⟩ := sl_idx (i := x2) r1 (by omega) (by omega)
        refine rd_op (ov_iaddr rfl rfl c4) ?_
        refine lD a7 rfl rfl rfl ?_
        obtain ⟨d9, b5, hres⟩ := let_ex hres
        have b1 := f87_ok  r0 a7 
        rw [b5] at b1
        refine cL b1 rfl rfl (clL_cons (TR.clo expr_Scope.t r0) (clL_cons (TR.clo api_ExprNode.t a7) clL_nil)) ?_
        refine mV rfl ?_
        refine xT rfl rfl ?_
        refine xT rfl rfl ?_
        refine mV rfl ?_
        refine mV rfl ?_
        refine nR ?_
        refine mV rfl ?_
        refine mV rfl ?_
        refine bN i_add rfl rfl ?_
        refine mV rfl ?_
        refine mV rfl ?_
        refine mV rfl ?_
        refine mV rfl ?_
        refine nS ?_
        subst hres
        exact rc_retV (.tmp rfl (.tmp rfl (.tmp rfl .nil))) (deep_closed (show closed (.tup _) = true from (clL_cons rfl (clL_cons rfl (clL_cons rfl clL_nil))))) rfl
      · refine rc_skip ?_
        refine pn_blk ?_
        refine pn_seq ?_
        refine sR ?_
        refine rd_allocO (x := .agg [vi 0, vi 0, vi 0]) (Mem.nil ⟨0, []⟩) rfl rfl (fun d5 d7 d6 c6 => ?_)
        refine nR ?_
        refine mV rfl ?_
        refine bN i_add rfl rfl ?_
        refine mV rfl ?_
        refine nS ?_
        refine rc_seq ?_
        refine sR ?_
        refine mV rfl ?_
        refine mI rfl ?_
        refine nS ?_
        refine rc_block ?_
        refine wC (m1_expr_Scope__check_L1_ok r0 r1 h0 hb ihR hmu hrec a3 a2 a1 a4 ?_  (show (tAr 3 tI).R ([0, 0, 0] : List Int) (.agg [vi 0, vi 0, vi 0]) from ⟨rfl, [vi 0, vi 0, vi 0], [vi 0, vi 0, vi 0], ⟨rfl, ⟨rfl, ⟨rfl, trivial⟩⟩⟩, rfl, rfl⟩) rfl (by omega) (by (rw [wr_of (by omega) (by omega)]; omega)) (Mem.sub c6 (.cons_cons _ .slnil)) hres) rfl
        · intro b8 b0 b3 a0 d2 c7 hres
          refine px_blk ?_
          refine pn_seq ?_
          refine sR ?_
          refine mV rfl ?_
          refine mV rfl ?_
          obtain ⟨d3, b7, a5⟩ := sl_idx (i := x2) r1 (by omega) (by omega)
          refine rd_op (ov_iaddr rfl rfl b7) ?_
          refine lD a5 rfl rfl rfl ?_
          refine rd_op (ov_load0 (k := 0) c7 rfl rfl (TR.agg (tAr 3 tI) a0)) ?_
          obtain ⟨d0, b6, hres⟩ := let_ex hres
          have b2 := f88_ok  a5 a0 
          rw [b6] at b2
          refine cL b2 rfl rfl (clL_cons (TR.clo api_ExprNode.t a5) (clL_cons (TR.clo (tAr 3 tI) a0) clL_nil)) ?_
          refine mV rfl ?_
          refine xT rfl rfl ?_
          refine xT rfl rfl ?_
          refine mV rfl ?_
          refine mV rfl ?_
          refine nR ?_
          refine mV rfl ?_
          refine mV rfl ?_
          refine mV rfl ?_
          refine mV rfl ?_
          refine mV rfl ?_
          refine mV rfl ?_
          refine nS ?_
          subst hres
          exact rc_retV (.tmp rfl (.tmp rfl (.tmp rfl .nil))) (deep_closed (show closed (.tup _) = true from (clL_cons rfl (clL_cons rfl (clL_cons rfl clL_nil))))) rfl
theorem f84_okR : ∀ (n_ : Nat) {x0 : expr_Scope} {x1 : List api_ExprNode} {x2 : Int} {v0 v1 : PV} (r0 : expr_Scope.t.R x0 v0) (r1 : (tSl api_ExprNode.t).R x1 v1) (h0 : 0 ≤ x2) (hb : x1.length ≤ 1000000), (x1.length - x2.toNat) < n_ → FnR Try.prog 84 [v0, v1, vi x2] (.tup [vi ((m1_expr_Scope__check_R n_ x0 x1 x2).1), vi ((m1_expr_Scope__check_R n_ x0 x1 x2).2.1), vi ((m1_expr_Scope__check_R n_ x0 x1 x2).2.2)]) := by
  intro n_
  induction n_ with
  | zero => intros; rename_i hlt; exact absurd hlt (Nat.not_lt_zero _)
  | succ n_ ihn =>
    intro x0 x1 x2 v0 v1 r0 r1 h0 hb hlt
    have e_ : m1_expr_Scope__check_R (n_ + 1) x0 x1 x2 = m1_expr_Scope__check_B (m1_expr_Scope__check_R n_) x0 x1 x2 := by rw [m1_expr_Scope__check_R]
    rw [e_]
    exact f84_okB r0 r1 h0 hb rfl (check_next n_) (fun {z0} {z1} {z2} {zv0} {zv1} zr0 zr1 h0 hb hz => ihn zr0 zr1 h0 hb (by omega))
theorem f84_ok {x0 : expr_Scope} {x1 : List api_ExprNode} {x2 : Int} {v0 v1 : PV} (r0 : expr_Scope.t.R x0 v0) (r1 : (tSl api_ExprNode.t).R x1 v1) (h0 : 0 ≤ x2) (hb : x1.length ≤ 1000000) : FnR Try.prog 84 [v0, v1, vi x2] (.tup [vi ((m1_expr_Scope__check x0 x1 x2).1), vi ((m1_expr_Scope__check x0 x1 x2).2.1), vi ((m1_expr_Scope__check x0 x1 x2).2.2)]) := f84_okR _ r0 r1 h0 hb (Nat.lt_succ_self _)

end Go.Proofs.Ytkgnjpoafilicaa
