/-
  The code of each function does what its plain program says.
-/
import Derived.Test.YtmonnlkagniolaaGreatL11W0
set_option linter.unusedVariables false
set_option linter.unusedSimpArgs false
set_option maxRecDepth 100000
namespace Go.Proofs.YtmonnlkagniolaaGreat
open Go Go.Pb Go.RowKit
def RF267 (res : Int) (r : PV) : Prop := r = vi res
theorem f267_ok {x0 : Int} : FnR Tryz.prog 267 [vi x0] (vi (expr_arity x0)) := by
  refine fnS (R := RF267) text267 (fun _ h => h) rfl fun res hres => ?_
  unfold expr_arity at hres
  refine sR ?_
  refine mI rfl ?_
  refine nS ?_
  refine rc_seq ?_
  refine sR ?_
  refine mV rfl ?_
  refine nS ?_
  refine rc_block ?_
  refine rc_seq ?_
  refine sR ?_
  refine bN i_eql rfl rfl ?_
  refine mV rfl ?_
  refine nS ?_
  obtain ⟨a7, a5, hres⟩ := let_ex hres
  refine rc_join (F := fun b S Q => ∀ (a2 : Bool), a7 a2 = res → RC Tryz.prog b S Q [(4, vb a2), (3, vi x0)] ⟨0, []⟩) ?_ ?_
  · intro a2  hres
    rw [← a5] at hres
    refine rc_br hres rfl ?_ ?_ <;> clear hres <;> intro c hres <;> try simp only [qa, qaD] at c
    · refine sR ?_
      refine mI rfl ?_
      refine nS ?_
      exact rR hres rfl rfl rfl
    · refine rc_seq ?_
      refine sR ?_
      refine bN i_eql rfl rfl ?_
      refine mV rfl ?_
      refine nS ?_
      obtain ⟨a8, a4, hres⟩ := let_ex hres
      refine rc_join (F := fun b S Q => ∀ (a1 : Bool), a8 a1 = res → RC Tryz.prog b S Q [(9, vb a1), (3, vi x0)] ⟨0, []⟩) ?_ ?_
      · intro a1  hres
        rw [← a4] at hres
        refine rc_br hres rfl ?_ ?_ <;> clear hres <;> intro c hres <;> try simp only [qa, qaD] at c
        · refine sR ?_
          refine mI rfl ?_
          refine nS ?_
          exact rR hres rfl rfl rfl
        · refine rc_seq ?_
          refine sR ?_
          refine bN i_eql rfl rfl ?_
          refine mV rfl ?_
          refine nS ?_
          obtain ⟨a6, a3, hres⟩ := let_ex hres
          refine rc_join (F := fun b S Q => ∀ (a0 : Bool), a6 a0 = res → RC Tryz.prog b S Q [(14, vb a0), (3, vi x0)] ⟨0, []⟩) ?_ ?_
          · intro a0  hres
            rw [← a3] at hres
            refine rc_br hres rfl ?_ ?_ <;> clear hres <;> intro c hres <;> try simp only [qa, qaD] at c
            · refine sR ?_
              refine mI rfl ?_
              refine nS ?_
              exact rR hres rfl rfl rfl
            · refine sR ?_
              refine bN i_eql rfl rfl ?_
              refine mV rfl ?_
              refine nS ?_
              refine rc_br hres rfl ?_ ?_ <;> clear hres <;> intro c hres <;> try simp only [qa, qaD] at c
              · refine sR ?_
                refine mI rfl ?_
                refine nS ?_
                exact rR hres rfl rfl rfl
              · refine rc_skip ?_
                refine pn_blk ?_
                refine pn_seq ?_
                refine sR ?_
                refine mI rfl ?_
                refine nS ?_
                exact rR hres rfl rfl rfl
          · intro J
            refine rc_br hres rfl ?_ ?_ <;> clear hres <;> intro c hres <;> try simp only [qa, qaD] at c
            · refine rc_skip ?_
              refine pn_seq (wC (J _  hres) rfl)
            · refine sR ?_
              refine bN i_eql rfl rfl ?_
              refine mV rfl ?_
              refine nS ?_
              refine rc_br hres rfl ?_ ?_ <;> clear hres <;> intro c hres <;> try simp only [qa, qaD] at c
              · refine rc_skip ?_
                refine pn_seq (wC (J _  hres) rfl)
              · refine sR ?_
                refine bN i_eql rfl rfl ?_
                refine mV rfl ?_
                refine nS ?_
                refine rc_br hres rfl ?_ ?_ <;> clear hres <;> intro c hres <;> try simp only [qa, qaD] at c
                · refine rc_skip ?_
                  refine pn_seq (wC (J _  hres) rfl)
                · refine sR ?_
                  refine bN i_eql rfl rfl ?_
                  refine mV rfl ?_
                  refine nS ?_
                  refine rc_br hres rfl ?_ ?_ <;> clear hres <;> intro c hres <;> try simp only [qa, qaD] at c
                  · refine rc_skip ?_
                    refine pn_seq (wC (J _  hres) rfl)
                  · refine sR ?_
                    refine bN i_eql rfl rfl ?_
                    refine mV rfl ?_
                    refine nS ?_
                    refine rc_br hres rfl ?_ ?_ <;> clear hres <;> intro c hres <;> try simp only [qa, qaD] at c
                    · refine rc_skip ?_
                      refine pn_seq (wC (J _  hres) rfl)
                    · refine sR ?_
                      refine bN i_eql rfl rfl ?_
                      refine mV rfl ?_
                      refine nS ?_
                      refine rc_br hres rfl ?_ ?_ <;> clear hres <;> intro c hres <;> try simp only [qa, qaD] at c
                      · refine rc_skip ?_
                        refine pn_seq (wC (J _  hres) rfl)
                      · refine sR ?_
                        refine bN i_eql rfl rfl ?_
                        refine mV rfl ?_
                        refine nS ?_
                        refine rc_br hres rfl ?_ ?_ <;> clear hres <;> intro c hres <;> try simp only [qa, qaD] at c
                        · refine rc_skip ?_
                          refine pn_seq (wC (J _  hres) rfl)
                        · refine rc_region ?_
                          refine bN i_eql rfl rfl ?_
                          refine mV rfl ?_
                          refine rd_nil ?_
                          refine pn_seq (wC (J _  hres) rfl)
      · intro J
        refine rc_br hres rfl ?_ ?_ <;> clear hres <;> intro c hres <;> try simp only [qa, qaD] at c
        · refine rc_skip ?_
          refine pn_seq (wC (J _  hres) rfl)
        · refine sR ?_
          refine bN i_eql rfl rfl ?_
          refine mV rfl ?_
          refine nS ?_
          refine rc_br hres rfl ?_ ?_ <;> clear hres <;> intro c hres <;> try simp only [qa, qaD] at c
          · refine rc_skip ?_
            refine pn_seq (wC (J _  hres) rfl)
          · refine sR ?_
            refine bN i_eql rfl rfl ?_
            refine mV rfl ?_
            refine nS ?_
            refine rc_br hres rfl ?_ ?_ <;> clear hres <;> intro c hres <;> try simp only [qa, qaD] at c
            · refine rc_skip ?_
              refine pn_seq (wC (J _  hres) rfl)
            · refine rc_region ?_
              refine bN i_eql rfl rfl ?_
              refine mV rfl ?_
              refine rd_nil ?_
              refine pn_seq (wC (J _  hres) rfl)
  · intro J
    refine rc_br hres rfl ?_ ?_ <;> clear hres <;> intro c hres <;> try simp only [qa, qaD] at c
    · refine rc_skip ?_
      refine pn_seq (wC (J _  hres) rfl)
    · refine sR ?_
      refine bN i_eql rfl rfl ?_
      refine mV rfl ?_
      refine nS ?_
      refine rc_br hres rfl ?_ ?_ <;> clear hres <;> intro c hres <;> try simp only [qa, qaD] at c
      · refine rc_skip ?_
        refine pn_seq (wC (J _  hres) rfl)
      · refine sR ?_
        refine bN i_eql rfl rfl ?_
        refine mV rfl ?_
        refine nS ?_
        refine rc_br hres rfl ?_ ?_ <;> clear hres <;> intro c hres <;> try simp only [qa, qaD] at c
        · refine rc_skip ?_
          refine pn_seq (wC (J _  hres) rfl)
        · refine rc_region ?_
          refine bN i_eql rfl rfl ?_
          refine mV rfl ?_
          refine rd_nil ?_
          refine pn_seq (wC (J _  hres) rfl)

def RF287 (res : Int × Int) (r : PV) : Prop := r = .tup [vi res.1, vi res.2]
theorem f287_ok {x0 : Int} : FnR Tryz.prog 287 [vi x0] (.tup [vi ((expr_wide x0).1), vi ((expr_wide x0).2)]) := by
  refine fnS (R := RF287) text287 (fun _ h => h) rfl fun res hres => ?_
  unfold expr_wide at hres
  refine sR ?_
  refine mI rfl ?_
  refine mI rfl ?_
  refine nS ?_
  refine rc_seq ?_
  refine sR ?_
  refine mV rfl ?_
  refine bN i_lss rfl rfl ?_
  refine mV rfl ?_
  refine rd_cutn 3 (d := 9) (v := vb ((decide (x0 < 1)) || (decide (32 < x0)))) ?_ ?_
  · intro S Q r
    cases a1 : (decide (x0 < 1))
    · intro k
      have a0 := a1
      try simp only [qa, qaD] at a0
      refine rd_yes rfl rfl (ov_move rfl) ?_
      refine rd_yes rfl rfl (ov_bin rfl rfl i_gtr) ?_
      exact gK rfl rfl rfl rfl rfl k
    · exact gN 2 rfl rfl rfl rfl rfl rfl
  refine nS ?_
  refine rc_br hres rfl ?_ ?_ <;> clear hres <;> intro c hres <;> try simp only [qa, qaD] at c
  · refine sR ?_
    refine mI rfl ?_
    refine mI rfl ?_
    refine nS ?_
    exact rT hres rfl rfl rfl rfl rfl
  · refine rc_skip ?_
    refine pn_seq ?_
    refine sR ?_
    refine mV rfl ?_
    refine mV rfl ?_
    refine mI rfl ?_
    refine nS ?_
    exact rT hres rfl rfl rfl rfl rfl

def RF181 (res : Bool) (r : PV) : Prop := r = vb res
theorem bitvec_valid_L1_ok {S : List Fr} {res : Bool} {x0 : List Int} {v0 : PV} (r0 : (tSl tI).R x0 v0) {K0 : Unit → Bool}
    (a5 : K0 () = res → PX Tryz.prog 0 S (QR Tryz.prog [(2, none)] (RF181 res)) [] ⟨0, []⟩) :
    ∀ {m : Nat} {a0 : Int} (a4 : m = Int.toNat ((x0.length : Int) - a0)) (a3 : 0 ≤ a0), bitvec_valid_L1 x0 K0 m a0 = res → RC Tryz.prog (.loop ac181_L1) S (QR Tryz.prog [(2, none)] (RF181 res)) [(7, vi a0), (6, vi (x0.length : Int)), (5, v0)] ⟨0, []⟩ := by
  intro m
  induction m with
  | zero =>
    intro a0 a4 a3 hres
    rw [bitvec_valid_L1] at hres
    refine rc_loop ?_
    refine sR ?_
    refine bN i_lss rfl rfl ?_
    refine nS ?_
    refine rc_seq ?_
    refine rc_cond rfl ?_ ?_ <;> intro c <;> try simp only [qa, qaD] at c
    · omega
    refine rc_exit ?_
    refine px_seq ?_
    refine px_again ?_
    exact wP (a5  hres) rfl
  | succ m ih =>
    intro a0 a4 a3 hres
    rw [bitvec_valid_L1] at hres
    refine rc_loop ?_
    refine sR ?_
    refine bN i_lss rfl rfl ?_
    refine nS ?_
    refine rc_seq ?_
    refine rc_cond rfl ?_ ?_ <;> intro c <;> try simp only [qa, qaD] at c
    rotate_left
    · omega
    refine rc_skip ?_
    refine pn_seq ?_
    refine rc_seq ?_
    refine rc_block ?_
    refine sR ?_
    refine rd_op (ov_iaddr rfl rfl (slI r0 (by omega) (by omega))) ?_
    refine lR rfl rfl rfl ?_
    refine mV rfl ?_
    refine nR ?_
    refine mV rfl ?_
    refine bN i_lss rfl rfl ?_
    refine mV rfl ?_
    refine rd_cutn 3 (d := 16) (v := vb ((decide ((ix x0 a0) < 1)) || (decide (32 < (ix x0 a0))))) ?_ ?_
    · intro S Q r
      cases a2 : (decide ((ix x0 a0) < 1))
      · intro k
        have a1 := a2
        try simp only [qa, qaD] at a1
        refine rd_yes rfl rfl (ov_move rfl) ?_
        refine rd_yes rfl rfl (ov_bin rfl rfl i_gtr) ?_
        exact gK rfl rfl rfl rfl rfl k
      · exact gN 2 rfl rfl rfl rfl rfl rfl
    refine nS ?_
    refine rc_br hres rfl ?_ ?_ <;> clear hres <;> intro c hres <;> try simp only [qa, qaD] at c
    · refine sR ?_
      refine mB rfl ?_
      refine nS ?_
      exact rR hres rfl rfl rfl
    · refine rc_skip ?_
      refine pn_blk ?_
      refine pn_seq ?_
      refine rc_region ?_
      refine bN i_add rfl rfl ?_
      refine mV rfl ?_
      refine rd_nil ?_
      refine pn_again ?_
      have hbd := sl_bound r0
      have hinc : wr (a0 + 1) = a0 + 1 := wr_of (by omega) (by omega)
      erw [hinc]
      exact wC (ih   (by omega) (by omega) hres) rfl

theorem f181_ok {x0 : List Int} {v0 : PV} (r0 : (tSl tI).R x0 v0) : FnR Tryz.prog 181 [v0] (vb (bitvec_valid x0)) := by
  refine fnS (R := RF181) text181 (fun _ h => h) rfl fun res hres => ?_
  unfold bitvec_valid at hres
  refine sR ?_
  refine mB rfl ?_
  refine nS ?_
  refine rc_seq ?_
  refine sR ?_
  refine mV rfl ?_
  refine rd_op (ov_bi rfl (sl_len r0 Tryz.underlying29 _)) ?_
  refine mI rfl ?_
  refine nS ?_
  refine rc_block ?_
  refine wC (bitvec_valid_L1_ok r0 ?_  rfl (by omega) hres) rfl
  · intro  hres
    refine px_blk ?_
    refine pn_seq ?_
    refine sR ?_
    refine mB rfl ?_
    refine nS ?_
    exact rR hres rfl rfl rfl

def RF182 (res : (BitVec 32)) (r : PV) : Prop := r = vu32 res
theorem f182_ok {x0 : Int} : FnR Tryz.prog 182 [vi x0] (vu32 (bitvec_Mask x0)) := by
  refine fnS (R := RF182) text182 (fun _ h => h) rfl fun res hres => ?_
  unfold bitvec_Mask at hres
  refine sR ?_
  refine rd_op (v := vu32 0#32) (ov_move rfl) ?_
  refine nS ?_
  refine rc_seq ?_
  refine sR ?_
  refine mV rfl ?_
  refine rd_op (v := .fs true [vi x0]) (ov_bslice rfl (all_cons rfl all_nil)) ?_
  have a2 : (tSl tI).R ([x0] : List Int) (.fs true [vi x0]) := sl_fs ⟨rfl, trivial⟩ (by simp)
  obtain ⟨a3, a1, hres⟩ := let_ex hres
  have a0 := f181_ok  a2 
  rw [a1] at a0
  refine cL a0 rfl rfl (clL_cons (TR.clo (tSl tI) a2) clL_nil) ?_
  refine rd_op (ov_not rfl) ?_
  refine nS ?_
  refine rc_br hres rfl ?_ ?_ <;> clear hres <;> intro c hres <;> try simp only [qa, qaD] at c
  · refine sR ?_
    refine rd_op (v := vu32 0#32) (ov_move rfl) ?_
    refine nS ?_
    exact rR hres rfl rfl rfl
  · refine rc_skip ?_
    refine pn_seq ?_
    refine sR ?_
    refine mV rfl ?_
    refine bN i_sub rfl rfl ?_
    refine rd_op (ov_bin (a := vu32 4294967295#32) (b := vi (wr (32 - x0))) rfl rfl (w_shr (by first | omega | exact mask_sh (by assumption) (by assumption)))) ?_
    refine mV rfl ?_
    refine nS ?_
    exact rR hres rfl rfl rfl

def RF288 (res : api_Field × Bool) (r : PV) : Prop := ∃ c0, r = .tup [c0, vb res.2] ∧ api_Field.t.R res.1 c0
theorem f288_ok {x0 : expr_Scope} {x1 x2 : Int} {v0 : PV} (r0 : expr_Scope.t.R x0 v0) : ∃ c0, FnR Tryz.prog 288 [v0, vi x1, vi x2] (.tup [c0, vb ((m1_expr_Scope__field x0 x1 x2).2)]) ∧ api_Field.t.R (m1_expr_Scope__field x0 x1 x2).1 c0 := by
  obtain ⟨res, hres⟩ : ∃ res, m1_expr_Scope__field x0 x1 x2 = res := ⟨_, rfl⟩
  suffices H : RC Tryz.prog ac288 [] (QR Tryz.prog [(6, some (2, true)), (7, none)] (RF288 res)) (argE 0 [v0, vi x1, vi x2]) ⟨0, []⟩ by
    rw [hres]
    obtain ⟨r, h1, c0, rfl, e5⟩ := fnE text288 (by simp) H
    exact ⟨c0, h1, e5⟩
  unfold m1_expr_Scope__field at hres
  refine sR ?_
  refine rd_op (ov_box rfl (TR.cnt expr_Scope.t r0)) ?_
  refine rd_allocO (x := .agg [vs [], vi 0]) (Mem.nil ⟨0, []⟩) rfl rfl (fun a3 a7 d7 b2 => ?_)
  refine mB rfl ?_
  refine nR ?_
  obtain ⟨e6, d1, c9⟩ := expr_Scope.g_Program r0
  refine fA rfl d1 ?_
  refine gL (api_Program.g_Metadata c9) rfl rfl rfl fun e3 d6 => ?_
  refine mV rfl ?_
  refine nS ?_
  refine rc_seq ?_
  refine sR ?_
  refine mV rfl ?_
  refine bN (i_neq (b := -1)) rfl rfl ?_
  refine nS ?_
  obtain ⟨c2, b6, hres⟩ := let_ex hres
  refine rc_join (F := fun b S Q => ∀ (a0 : List api_Field) (a2 : PV) (a1 : (tSl api_Field.t).R a0 a2) (a5 : Heap) (a6 : Mem a5 [⟨.op a3 a7 0, 166, 2, [.agg [vs [], vi 0]]⟩]), c2 a0 = res → RC Tryz.prog b S Q [(8, a2), (6, .op a3 a7 0), (2, vi x2)] a5) ?_ ?_
  · intro a0 a2 a1 a5 a6 hres
    rw [← b6] at hres
    refine rc_seq ?_
    refine sR ?_
    refine mV rfl ?_
    refine bN i_lss rfl rfl ?_
    refine mV rfl ?_
    refine rd_cutn 5 (d := 39) (v := vb ((decide (x2 < 0)) || (decide ((a0.length : Int) ≤ x2)))) ?_ ?_
    · intro S Q r
      cases b8 : (decide (x2 < 0))
      · intro k
        have b1 := b8
        try simp only [qa, qaD] at b1
        refine rd_yes rfl rfl (ov_move rfl) ?_
        refine rd_yes rfl rfl (ov_move rfl) ?_
        refine rd_yes rfl rfl (ov_bi rfl (sl_len a1 Tryz.underlying23 _)) ?_
        refine rd_yes rfl rfl (ov_bin rfl rfl i_geq) ?_
        exact gK rfl rfl rfl rfl rfl k
      · exact gN 4 rfl rfl rfl rfl rfl rfl
    refine nS ?_
    refine rc_br hres rfl ?_ ?_ <;> clear hres <;> intro c hres <;> try simp only [qa, qaD] at c
    · refine sR ?_
      refine rd_op (v := .agg [vs [], vi 0]) (ov_build (cs := [vs [], vi 0]) rfl rfl) ?_
      refine rd_storeO (k := 0) (v := .agg [vs [], vi 0]) a6 rfl rfl rfl rfl (fun d2 a9 => ?_)
      replace a9 : Mem d2 [⟨.op a3 a7 0, 166, 2, [.agg [vs [], vi 0]]⟩] := a9
      refine mB rfl ?_
      refine nS ?_
      subst hres
      exact rc_retV (.cell rfl (load_whole (k := 0) a9 rfl rfl) (.tmp rfl .nil)) (deep_closed (show closed (.tup _) = true from (clL_cons (TR.clo api_Field.t (show api_Field.t.R ({ Name := ([] : List UInt8), Width := 0 } : api_Field) (.agg [vs [], vi 0]) from rfl)) (clL_cons rfl clL_nil)))) ⟨.agg [vs [], vi 0], rfl, rfl⟩
    · refine rc_skip ?_
      refine pn_seq ?_
      refine sR ?_
      refine mV rfl ?_
      refine mV rfl ?_
      obtain ⟨b4, c3, a4⟩ := sl_idx (i := x2) a1 (by omega) (by omega)
      refine rd_op (ov_iaddr rfl rfl c3) ?_
      refine lD a4 rfl rfl rfl ?_
      refine rd_storeO (k := 0) (v := b4) a6 rfl rfl rfl (TR.cnt api_Field.t a4) (fun c4 b5 => ?_)
      replace b5 : Mem c4 [⟨.op a3 a7 0, 166, 2, [b4]⟩] := b5
      refine mB rfl ?_
      refine nS ?_
      subst hres
      exact rc_retV (.cell rfl (load_whole (k := 0) b5 rfl (TR.agg api_Field.t a4)) (.tmp rfl .nil)) (deep_closed (show closed (.tup _) = true from (clL_cons (TR.clo api_Field.t a4) (clL_cons rfl clL_nil)))) ⟨b4, rfl, a4⟩
  · intro J
    refine rc_br hres rfl ?_ ?_ <;> clear hres <;> intro c hres <;> try simp only [qa, qaD] at c
    · refine rc_seq ?_
      refine sR ?_
      refine mV rfl ?_
      refine bN i_lss rfl rfl ?_
      refine mV rfl ?_
      refine rd_cutn 7 (d := 23) (v := vb ((decide (x1 < 0)) || (decide ((x0.Program.Headers.length : Int) ≤ x1)))) ?_ ?_
      · intro S Q r
        cases b7 : (decide (x1 < 0))
        · intro k
          have a8 := b7
          try simp only [qa, qaD] at a8
          refine rd_yes rfl rfl (ov_move rfl) ?_
          obtain ⟨d9, c1, b9⟩ := expr_Scope.g_Program r0
          refine rd_yes rfl rfl (ov_faddr rfl c1) ?_
          obtain ⟨e0, c7, b3⟩ := api_Program.g_Headers b9
          refine rd_yes rfl rfl (ov_faddr rfl c7) ?_
          refine rd_yes rfl rfl (ov_load rfl (TR.cnt (tSl api_Header.t) b3) (TR.agg (tSl api_Header.t) b3)) ?_
          refine rd_yes rfl rfl (ov_bi rfl (sl_len b3 Tryz.underlying22 _)) ?_
          refine rd_yes rfl rfl (ov_bin rfl rfl i_geq) ?_
          exact gK rfl rfl rfl rfl rfl k
        · exact gN 6 rfl rfl rfl rfl rfl rfl
      refine nS ?_
      refine rc_br hres rfl ?_ ?_ <;> clear hres <;> intro c hres <;> try simp only [qa, qaD] at c
      · refine sR ?_
        refine rd_op (v := .agg [vs [], vi 0]) (ov_build (cs := [vs [], vi 0]) rfl rfl) ?_
        refine rd_storeO (k := 0) (v := .agg [vs [], vi 0]) b2 rfl rfl rfl rfl (fun d0 b0 => ?_)
        replace b0 : Mem d0 [⟨.op a3 a7 0, 166, 2, [.agg [vs [], vi 0]]⟩] := b0
        refine mB rfl ?_
        refine nS ?_
        subst hres
        exact rc_retV (.cell rfl (load_whole (k := 0) b0 rfl rfl) (.tmp rfl .nil)) (deep_closed (show closed (.tup _) = true from (clL_cons (TR.clo api_Field.t (show api_Field.t.R ({ Name := ([] : List UInt8), Width := 0 } : api_Field) (.agg [vs [], vi 0]) from rfl)) (clL_cons rfl clL_nil)))) ⟨.agg [vs [], vi 0], rfl, rfl⟩
      · refine rc_skip ?_
        refine pn_seq ?_
        refine rc_region ?_
        obtain ⟨e4, d5, c6⟩ := expr_Scope.g_Program r0
        refine fA rfl d5 ?_
        refine gL (api_Program.g_Headers c6) rfl rfl rfl fun e2 c8 => ?_
        refine mV rfl ?_
        obtain ⟨e1, c5, d3⟩ := sl_idx (i := x1) c8 (by omega) (by omega)
        refine rd_op (ov_iaddr rfl rfl c5) ?_
        refine gL (api_Header.g_Fields d3) rfl rfl rfl fun d8 d4 => ?_
        refine mV rfl ?_
        refine rd_nil ?_
        refine pn_seq (wC (J _ _ d4 _ (Mem.sub b2 (.cons_cons _ .slnil)) hres) rfl)
    · refine rc_skip ?_
      refine pn_seq (wC (J _ _ d6 _ (Mem.sub b2 (.cons_cons _ .slnil)) hres) rfl)

def RF268 (res : Int × Int) (r : PV) : Prop := r = .tup [vi res.1, vi res.2]
theorem f268_ok {x0 : expr_Scope} {x1 : api_ExprNode} {v0 v1 : PV} (r0 : expr_Scope.t.R x0 v0) (r1 : api_ExprNode.t.R x1 v1) : FnR Tryz.prog 268 [v0, v1] (.tup [vi ((m1_expr_Scope__primary x0 x1).1), vi ((m1_expr_Scope__primary x0 x1).2)]) := by
  refine fnS (R := RF268) text268 (fun _ h => h) rfl fun res hres => ?_
  unfold m1_expr_Scope__primary at hres
  refine sR ?_
  refine rd_op (ov_box rfl (TR.cnt expr_Scope.t r0)) ?_
  refine rd_op (ov_box rfl (TR.cnt api_ExprNode.t r1)) ?_
  refine mI rfl ?_
  refine mI rfl ?_
  refine nS ?_
  refine rc_seq ?_
  refine sR ?_
  refine fL rfl (api_ExprNode.g_Op r1) rfl rfl ?_
  refine nS ?_
  refine rc_block ?_
  refine sR ?_
  refine bN i_eql rfl rfl ?_
  refine mV rfl ?_
  refine nS ?_
  refine rc_br hres rfl ?_ ?_ <;> clear hres <;> intro c hres <;> try simp only [qa, qaD] at c
  · refine sR ?_
    refine fL rfl (api_ExprNode.g_W r1) rfl rfl ?_
    obtain ⟨a0, b4, hres⟩ := let_ex hres
    have c1 := f287_ok (x0 := x1.W)  
    rw [b4] at c1
    refine cL c1 rfl rfl (clL_cons rfl clL_nil) ?_
    refine mV rfl ?_
    refine xT rfl rfl ?_
    refine xT rfl rfl ?_
    refine mV rfl ?_
    refine mV rfl ?_
    refine nS ?_
    refine rc_seq ?_
    refine sR ?_
    refine mV rfl ?_
    refine bN i_eql rfl rfl ?_
    refine mV rfl ?_
    refine rd_cutn 12 (d := 34) (v := vb ((decide (a0.2 = 0)) && ((decide (x1.N < 0)) || (decide (((bitvec_Mask a0.1).toNat : Int) < x1.N))))) ?_ ?_
    · intro S Q r
      cases b8 : (decide (a0.2 = 0))
      · exact gN 11 rfl rfl rfl rfl rfl rfl
      · intro k
        have a3 := b8
        try simp only [qa, qaD] at a3
        refine rd_yes rfl rfl (ov_faddr rfl (api_ExprNode.g_N r1)) ?_
        refine rd_yes rfl rfl (ov_load rfl rfl rfl) ?_
        refine rd_yes rfl rfl (ov_bin rfl rfl i_lss) ?_
        refine rd_yes rfl rfl (ov_move rfl) ?_
        refine rd_cutn 7 (d := 33) (v := vb ((decide (x1.N < 0)) || (decide (((bitvec_Mask a0.1).toNat : Int) < x1.N)))) ?_ ?_
        · intro S Q r
          cases b9 : (decide (x1.N < 0))
          · intro k
            have a4 := b9
            try simp only [qa, qaD] at a4
            refine rd_yes rfl rfl (ov_faddr rfl (api_ExprNode.g_N r1)) ?_
            refine rd_yes rfl rfl (ov_load rfl rfl rfl) ?_
            refine rd_yes rfl rfl (ov_move rfl) ?_
            have d2 := f182_ok (x0 := a0.1)  
            refine rd_ycall rfl rfl (cv_fn rfl rfl (clL_cons rfl clL_nil) d2) ?_
            refine rd_yes rfl rfl (ov_conv (a := vu32 (bitvec_Mask a0.1)) rfl (c_wi Tryz.underlying89 Tryz.underlying3)) ?_
            refine rd_yes rfl rfl (ov_bin rfl rfl i_gtr) ?_
            refine rd_yes (v := vb (decide (((bitvec_Mask a0.1).toNat : Int) < x1.N))) rfl rfl (ov_pick rfl rfl rfl rfl) ?_
            exact wD k rfl
          · intro k
            refine rd_skip rfl rfl ?_
            refine rd_skip rfl rfl ?_
            refine rd_skip rfl rfl ?_
            refine rd_skip rfl rfl ?_
            refine rd_skip rfl rfl ?_
            refine rd_skip rfl rfl ?_
            refine rd_yes (v := vb true) rfl rfl (ov_pick rfl rfl rfl rfl) ?_
            exact wD k rfl
        exact gK rfl rfl rfl rfl rfl k
    refine nS ?_
    refine rc_br hres rfl ?_ ?_ <;> clear hres <;> intro c hres <;> try simp only [qa, qaD] at c
    · refine sR ?_
      refine mI rfl ?_
      refine mI rfl ?_
      refine nS ?_
      exact rT hres rfl rfl rfl rfl rfl
    · refine rc_skip ?_
      refine pn_seq ?_
      refine sR ?_
      refine mV rfl ?_
      refine mV rfl ?_
      refine mV rfl ?_
      refine mV rfl ?_
      refine nS ?_
      exact rT hres rfl rfl rfl rfl rfl
  · refine sR ?_
    refine bN i_eql rfl rfl ?_
    refine mV rfl ?_
    refine nS ?_
    refine rc_br hres rfl ?_ ?_ <;> clear hres <;> intro c hres <;> try simp only [qa, qaD] at c
    · refine sR ?_
      refine lD r0 rfl rfl rfl ?_
      refine fL rfl (api_ExprNode.g_N r1) rfl rfl ?_
      refine fL rfl (api_ExprNode.g_W r1) rfl rfl ?_
      obtain ⟨d1, a9, hres⟩ := let_ex hres
      obtain ⟨b2, b7, a8⟩ := f288_ok (x1 := x1.N) (x2 := x1.W) r0 
      rw [a9] at b7 a8
      refine cL b7 rfl rfl (clL_cons (TR.clo expr_Scope.t r0) (clL_cons rfl (clL_cons rfl clL_nil))) ?_
      refine mV rfl ?_
      refine xT rfl rfl ?_
      refine xT rfl rfl ?_
      refine rd_allocO (x := .agg [vs [], vi 0]) (Mem.nil ⟨0, []⟩) rfl rfl (fun c6 d0 d9 c5 => ?_)
      refine rd_storeO (k := 0) (v := b2) c5 rfl rfl rfl (TR.cnt api_Field.t a8) (fun c8 a2 => ?_)
      replace a2 : Mem c8 [⟨.op c6 d0 0, 166, 2, [b2]⟩] := a2
      refine mV rfl ?_
      refine nS ?_
      refine rc_seq ?_
      refine sR ?_
      refine mV rfl ?_
      refine rd_op (ov_not rfl) ?_
      refine nS ?_
      refine rc_br hres rfl ?_ ?_ <;> clear hres <;> intro c hres <;> try simp only [qa, qaD] at c
      · refine sR ?_
        refine mI rfl ?_
        refine mI rfl ?_
        refine nS ?_
        exact rT hres rfl rfl rfl rfl rfl
      · refine rc_skip ?_
        refine pn_seq ?_
        refine sR ?_
        refine rd_op (ov_faddrO rfl) ?_
        refine rd_op (ov_loadf (k := 0) a2 rfl rfl (api_Field.g_Width a8)) ?_
        obtain ⟨e0, c0, hres⟩ := let_ex hres
        have b3 := f287_ok (x0 := d1.1.Width)  
        rw [c0] at b3
        refine cL b3 rfl rfl (clL_cons rfl clL_nil) ?_
        refine xT rfl rfl ?_
        refine xT rfl rfl ?_
        refine mV rfl ?_
        refine mV rfl ?_
        refine nS ?_
        exact rT hres rfl rfl rfl rfl rfl
    · refine sR ?_
      refine bN i_eql rfl rfl ?_
      refine mV rfl ?_
      refine nS ?_
      refine rc_br hres rfl ?_ ?_ <;> clear hres <;> intro c hres <;> try simp only [qa, qaD] at c
      · refine rc_seq ?_
        refine sR ?_
        refine fL rfl (api_ExprNode.g_N r1) rfl rfl ?_
        refine bN i_lss rfl rfl ?_
        refine mV rfl ?_
        refine rd_cutn 7 (d := 67) (v := vb ((decide (x1.N < 0)) || (decide ((x0.Params.length : Int) ≤ x1.N)))) ?_ ?_
        · intro S Q r
          cases b5 : (decide (x1.N < 0))
          · intro k
            have a6 := b5
            try simp only [qa, qaD] at a6
            refine rd_yes rfl rfl (ov_faddr rfl (api_ExprNode.g_N r1)) ?_
            refine rd_yes rfl rfl (ov_load rfl rfl rfl) ?_
            obtain ⟨d6, c4, a5⟩ := expr_Scope.g_Params r0
            refine rd_yes rfl rfl (ov_faddr rfl c4) ?_
            refine rd_yes rfl rfl (ov_load rfl (TR.cnt (tSl api_Field.t) a5) (TR.agg (tSl api_Field.t) a5)) ?_
            refine rd_yes rfl rfl (ov_bi rfl (sl_len a5 Tryz.underlying23 _)) ?_
            refine rd_yes rfl rfl (ov_bin rfl rfl i_geq) ?_
            exact gK rfl rfl rfl rfl rfl k
          · exact gN 6 rfl rfl rfl rfl rfl rfl
        refine nS ?_
        refine rc_br hres rfl ?_ ?_ <;> clear hres <;> intro c hres <;> try simp only [qa, qaD] at c
        · refine sR ?_
          refine mI rfl ?_
          refine mI rfl ?_
          refine nS ?_
          exact rT hres rfl rfl rfl rfl rfl
        · refine rc_skip ?_
          refine pn_seq ?_
          refine sR ?_
          refine gL (expr_Scope.g_Params r0) rfl rfl rfl fun e2 d3 => ?_
          refine fL rfl (api_ExprNode.g_N r1) rfl rfl ?_
          obtain ⟨d5, d4, c9⟩ := sl_idx (i := x1.N) d3 (by omega) (by omega)
          refine rd_op (ov_iaddr rfl rfl d4) ?_
          refine fL rfl (api_Field.g_Width c9) rfl rfl ?_
          obtain ⟨d7, b1, hres⟩ := let_ex hres
          have b6 := f287_ok (x0 := (ix x0.Params x1.N).Width)  
          rw [b1] at b6
          refine cL b6 rfl rfl (clL_cons rfl clL_nil) ?_
          refine xT rfl rfl ?_
          refine xT rfl rfl ?_
          refine mV rfl ?_
          refine mV rfl ?_
          refine nS ?_
          exact rT hres rfl rfl rfl rfl rfl
      · refine rc_skip ?_
        refine pn_blk ?_
        refine pn_seq ?_
        refine rc_seq ?_
        refine sR ?_
        refine fL rfl (api_ExprNode.g_N r1) rfl rfl ?_
        refine bN i_lss rfl rfl ?_
        refine mV rfl ?_
        refine rd_cutn 8 (d := 89) (v := vb ((decide (x1.N < 0)) || (decide ((x0.Program.Headers.length : Int) ≤ x1.N)))) ?_ ?_
        · intro S Q r
          cases b0 : (decide (x1.N < 0))
          · intro k
            have a1 := b0
            try simp only [qa, qaD] at a1
            refine rd_yes rfl rfl (ov_faddr rfl (api_ExprNode.g_N r1)) ?_
            refine rd_yes rfl rfl (ov_load rfl rfl rfl) ?_
            obtain ⟨d8, c3, c2⟩ := expr_Scope.g_Program r0
            refine rd_yes rfl rfl (ov_faddr rfl c3) ?_
            obtain ⟨e1, c7, a7⟩ := api_Program.g_Headers c2
            refine rd_yes rfl rfl (ov_faddr rfl c7) ?_
            refine rd_yes rfl rfl (ov_load rfl (TR.cnt (tSl api_Header.t) a7) (TR.agg (tSl api_Header.t) a7)) ?_
            refine rd_yes rfl rfl (ov_bi rfl (sl_len a7 Tryz.underlying22 _)) ?_
            refine rd_yes rfl rfl (ov_bin rfl rfl i_geq) ?_
            exact gK rfl rfl rfl rfl rfl k
          · exact gN 7 rfl rfl rfl rfl rfl rfl
        refine nS ?_
        refine rc_br hres rfl ?_ ?_ <;> clear hres <;> intro c hres <;> try simp only [qa, qaD] at c
        · refine sR ?_
          refine mI rfl ?_
          refine mI rfl ?_
          refine nS ?_
          exact rT hres rfl rfl rfl rfl rfl
        · refine rc_skip ?_
          refine pn_seq ?_
          refine sR ?_
          refine mI rfl ?_
          refine mI rfl ?_
          refine nS ?_
          exact rT hres rfl rfl rfl rfl rfl

def RF269 (res : Int × Int) (r : PV) : Prop := r = .tup [vi res.1, vi res.2]
theorem f269_ok {x0 : api_ExprNode} {x1 : List Int} {v0 v1 : PV} (r0 : api_ExprNode.t.R x0 v0) (r1 : (tAr 3 tI).R x1 v1) : FnR Tryz.prog 269 [v0, v1] (.tup [vi ((expr_combine x0 x1).1), vi ((expr_combine x0 x1).2)]) := by
  refine fnS (R := RF269) text269 (fun _ h => h) rfl fun res hres => ?_
  unfold expr_combine at hres
  refine sR ?_
  refine rd_op (ov_box rfl (TR.cnt api_ExprNode.t r0)) ?_
  refine rd_op (ov_box rfl (TR.cnt (tAr 3 tI) r1)) ?_
  refine mI rfl ?_
  refine mI rfl ?_
  refine nS ?_
  refine rc_seq ?_
  refine sR ?_
  refine fL rfl (api_ExprNode.g_Op r0) rfl rfl ?_
  refine nS ?_
  refine rc_block ?_
  refine rc_seq ?_
  refine sR ?_
  refine bN i_eql rfl rfl ?_
  refine mV rfl ?_
  refine nS ?_
  obtain ⟨f3, d2, hres⟩ := let_ex hres
  refine rc_join (F := fun b S Q => ∀ (a0 : Bool), f3 a0 = res → RC Tryz.prog b S Q [(10, vb a0), (9, vi x0.Op), (3, .fp v1), (2, .fp v0)] ⟨0, []⟩) ?_ ?_
  · intro a0  hres
    rw [← d2] at hres
    refine rc_br hres rfl ?_ ?_ <;> clear hres <;> intro c hres <;> try simp only [qa, qaD] at c
    · refine sR ?_
      refine fL rfl (api_ExprNode.g_N r0) rfl rfl ?_
      refine bN i_lss rfl rfl ?_
      refine mV rfl ?_
      refine rd_cutn 4 (d := 20) (v := vb ((decide (x0.N < 0)) || (decide (31 < x0.N)))) ?_ ?_
      · intro S Q r
        cases c7 : (decide (x0.N < 0))
        · intro k
          have b7 := c7
          try simp only [qa, qaD] at b7
          refine rd_yes rfl rfl (ov_faddr rfl (api_ExprNode.g_N r0)) ?_
          refine rd_yes rfl rfl (ov_load rfl rfl rfl) ?_
          refine rd_yes rfl rfl (ov_bin rfl rfl i_gtr) ?_
          exact gK rfl rfl rfl rfl rfl k
        · exact gN 3 rfl rfl rfl rfl rfl rfl
      refine nS ?_
      refine rc_br hres rfl ?_ ?_ <;> clear hres <;> intro c hres <;> try simp only [qa, qaD] at c
      · refine sR ?_
        refine mI rfl ?_
        refine mI rfl ?_
        refine nS ?_
        exact rT hres rfl rfl rfl rfl rfl
      · refine rc_skip ?_
        refine pn_blk ?_
        refine pn_seq ?_
        refine rc_seq ?_
        refine sR ?_
        refine fL rfl (api_ExprNode.g_Op r0) rfl rfl ?_
        obtain ⟨d3, c1, hres⟩ := let_ex hres
        have c5 := f267_ok (x0 := x0.Op)  
        rw [c1] at c5
        refine cL c5 rfl rfl (clL_cons rfl clL_nil) ?_
        refine bN i_eql rfl rfl ?_
        refine mV rfl ?_
        refine rd_cutn 6 (d := 80) (v := vb ((decide (d3 = 2)) && (!decide ((ix x1 0) = (ix x1 1))))) ?_ ?_
        · intro S Q r
          cases d4 : (decide (d3 = 2))
          · exact gN 5 rfl rfl rfl rfl rfl rfl
          · intro k
            have b9 := d4
            try simp only [qa, qaD] at b9
            obtain ⟨g0, f2, b3⟩ := arr_addr (t := tI) r1 (i := 0) (by omega) (by omega)
            have b3 : g0 = vi (ix x1 0) := b3; subst b3
            refine rd_yes rfl rfl (ov_iaddrA rfl rfl f2) ?_
            refine rd_yes rfl rfl (ov_load rfl rfl rfl) ?_
            obtain ⟨e4, e6, a3⟩ := arr_addr (t := tI) r1 (i := 1) (by omega) (by omega)
            have a3 : e4 = vi (ix x1 1) := a3; subst a3
            refine rd_yes rfl rfl (ov_iaddrA rfl rfl e6) ?_
            refine rd_yes rfl rfl (ov_load rfl rfl rfl) ?_
            refine rd_yes rfl rfl (ov_bin rfl rfl i_neq) ?_
            exact gK rfl rfl rfl rfl rfl k
        refine nS ?_
        refine rc_br hres rfl ?_ ?_ <;> clear hres <;> intro c hres <;> try simp only [qa, qaD] at c
        · refine sR ?_
          refine mI rfl ?_
          refine mI rfl ?_
          refine nS ?_
          exact rT hres rfl rfl rfl rfl rfl
        · refine rc_skip ?_
          refine pn_seq ?_
          refine rc_seq ?_
          refine sR ?_
          refine fL rfl (api_ExprNode.g_Op r0) rfl rfl ?_
          refine bN i_eql rfl rfl ?_
          refine mV rfl ?_
          refine rd_cutn 4 (d := 88) (v := vb ((decide (x0.Op = 15)) || (decide (x0.Op = 16)))) ?_ ?_
          · intro S Q r
            cases c4 : (decide (x0.Op = 15))
            · intro k
              have b0 := c4
              try simp only [qa, qaD] at b0
              refine rd_yes rfl rfl (ov_faddr rfl (api_ExprNode.g_Op r0)) ?_
              refine rd_yes rfl rfl (ov_load rfl rfl rfl) ?_
              refine rd_yes rfl rfl (ov_bin rfl rfl i_eql) ?_
              exact gK rfl rfl rfl rfl rfl k
            · exact gN 3 rfl rfl rfl rfl rfl rfl
          refine nS ?_
          refine rc_br hres rfl ?_ ?_ <;> clear hres <;> intro c hres <;> try simp only [qa, qaD] at c
          · refine sR ?_
            refine mI rfl ?_
            refine mI rfl ?_
            refine nS ?_
            exact rT hres rfl rfl rfl rfl rfl
          · refine rc_skip ?_
            refine pn_seq ?_
            refine sR ?_
            obtain ⟨e7, f9, b2⟩ := arr_addr (t := tI) r1 (i := 0) (by omega) (by omega)
            have b2 : e7 = vi (ix x1 0) := b2; subst b2
            refine rd_op (ov_iaddrA rfl rfl f9) ?_
            refine lR rfl rfl rfl ?_
            refine mV rfl ?_
            refine mI rfl ?_
            refine nS ?_
            exact rT hres rfl rfl rfl rfl rfl
    · refine sR ?_
      refine bN i_eql rfl rfl ?_
      refine mV rfl ?_
      refine nS ?_
      refine rc_br hres rfl ?_ ?_ <;> clear hres <;> intro c hres <;> try simp only [qa, qaD] at c
      · refine rc_seq ?_
        refine sR ?_
        refine fL rfl (api_ExprNode.g_N r0) rfl rfl ?_
        refine bN i_lss rfl rfl ?_
        refine nS ?_
        refine rc_br hres rfl ?_ ?_ <;> clear hres <;> intro c hres <;> try simp only [qa, qaD] at c
        · refine sR ?_
          refine mI rfl ?_
          refine mI rfl ?_
          refine nS ?_
          exact rT hres rfl rfl rfl rfl rfl
        · refine rc_skip ?_
          refine pn_seq ?_
          refine rc_seq ?_
          refine sR ?_
          refine fL rfl (api_ExprNode.g_W r0) rfl rfl ?_
          obtain ⟨d9, d7, hres⟩ := let_ex hres
          have c9 := f287_ok (x0 := x0.W)  
          rw [d7] at c9
          refine cL c9 rfl rfl (clL_cons rfl clL_nil) ?_
          refine mV rfl ?_
          refine xT rfl rfl ?_
          refine xT rfl rfl ?_
          refine mV rfl ?_
          refine mV rfl ?_
          refine nR ?_
          refine mV rfl ?_
          refine bN i_neq rfl rfl ?_
          refine mV rfl ?_
          refine rd_cutn 9 (d := 43) (v := vb ((!decide (d9.2 = 0)) || (decide ((wr ((ix x1 0) - x0.W)) < x0.N)))) ?_ ?_
          · intro S Q r
            cases c2 : (!decide (d9.2 = 0))
            · intro k
              have b5 := c2
              try simp only [qa, qaD] at b5
              refine rd_yes rfl rfl (ov_faddr rfl (api_ExprNode.g_N r0)) ?_
              refine rd_yes rfl rfl (ov_load rfl rfl rfl) ?_
              obtain ⟨e3, g5, b1⟩ := arr_addr (t := tI) r1 (i := 0) (by omega) (by omega)
              have b1 : e3 = vi (ix x1 0) := b1; subst b1
              refine rd_yes rfl rfl (ov_iaddrA rfl rfl g5) ?_
              refine rd_yes rfl rfl (ov_load rfl rfl rfl) ?_
              refine rd_yes rfl rfl (ov_faddr rfl (api_ExprNode.g_W r0)) ?_
              refine rd_yes rfl rfl (ov_load rfl rfl rfl) ?_
              refine rd_yes rfl rfl (ov_bin rfl rfl i_sub) ?_
              refine rd_yes rfl rfl (ov_bin rfl rfl i_gtr) ?_
              exact gK rfl rfl rfl rfl rfl k
            · exact gN 8 rfl rfl rfl rfl rfl rfl
          refine nS ?_
          refine rc_br hres rfl ?_ ?_ <;> clear hres <;> intro c hres <;> try simp only [qa, qaD] at c
          · refine sR ?_
            refine mI rfl ?_
            refine mI rfl ?_
            refine nS ?_
            exact rT hres rfl rfl rfl rfl rfl
          · refine rc_skip ?_
            refine pn_seq ?_
            refine sR ?_
            refine fL rfl (api_ExprNode.g_W r0) rfl rfl ?_
            refine mV rfl ?_
            refine mI rfl ?_
            refine nS ?_
            exact rT hres rfl rfl rfl rfl rfl
      · refine sR ?_
        refine bN i_eql rfl rfl ?_
        refine mV rfl ?_
        refine nS ?_
        refine rc_br hres rfl ?_ ?_ <;> clear hres <;> intro c hres <;> try simp only [qa, qaD] at c
        · refine sR ?_
          obtain ⟨e5, g1, c0⟩ := arr_addr (t := tI) r1 (i := 0) (by omega) (by omega)
          have c0 : e5 = vi (ix x1 0) := c0; subst c0
          refine rd_op (ov_iaddrA rfl rfl g1) ?_
          refine lR rfl rfl rfl ?_
          obtain ⟨f0, g6, a4⟩ := arr_addr (t := tI) r1 (i := 1) (by omega) (by omega)
          have a4 : f0 = vi (ix x1 1) := a4; subst a4
          refine rd_op (ov_iaddrA rfl rfl g6) ?_
          refine lR rfl rfl rfl ?_
          refine bN i_add rfl rfl ?_
          obtain ⟨g7, d5, hres⟩ := let_ex hres
          have c6 := f287_ok (x0 := (wr ((ix x1 0) + (ix x1 1))))  
          rw [d5] at c6
          refine cL c6 rfl rfl (clL_cons rfl clL_nil) ?_
          refine xT rfl rfl ?_
          refine xT rfl rfl ?_
          refine mV rfl ?_
          refine mV rfl ?_
          refine nS ?_
          exact rT hres rfl rfl rfl rfl rfl
        · refine sR ?_
          refine bN i_eql rfl rfl ?_
          refine mV rfl ?_
          refine nS ?_
          refine rc_br hres rfl ?_ ?_ <;> clear hres <;> intro c hres <;> try simp only [qa, qaD] at c
          · refine rc_seq ?_
            refine sR ?_
            obtain ⟨g4, f6, a9⟩ := arr_addr (t := tI) r1 (i := 0) (by omega) (by omega)
            have a9 : g4 = vi (ix x1 0) := a9; subst a9
            refine rd_op (ov_iaddrA rfl rfl f6) ?_
            refine lR rfl rfl rfl ?_
            refine bN i_neq rfl rfl ?_
            refine mV rfl ?_
            refine rd_cutn 6 (d := 67) (v := vb ((!decide ((ix x1 0) = 1)) || (!decide ((ix x1 1) = (ix x1 2))))) ?_ ?_
            · intro S Q r
              cases d1 : (!decide ((ix x1 0) = 1))
              · intro k
                have a8 := d1
                try simp only [qa, qaD] at a8
                obtain ⟨f7, g3, a7⟩ := arr_addr (t := tI) r1 (i := 1) (by omega) (by omega)
                have a7 : f7 = vi (ix x1 1) := a7; subst a7
                refine rd_yes rfl rfl (ov_iaddrA rfl rfl g3) ?_
                refine rd_yes rfl rfl (ov_load rfl rfl rfl) ?_
                obtain ⟨f5, e1, b6⟩ := arr_addr (t := tI) r1 (i := 2) (by omega) (by omega)
                have b6 : f5 = vi (ix x1 2) := b6; subst b6
                refine rd_yes rfl rfl (ov_iaddrA rfl rfl e1) ?_
                refine rd_yes rfl rfl (ov_load rfl rfl rfl) ?_
                refine rd_yes rfl rfl (ov_bin rfl rfl i_neq) ?_
                exact gK rfl rfl rfl rfl rfl k
              · exact gN 5 rfl rfl rfl rfl rfl rfl
            refine nS ?_
            refine rc_br hres rfl ?_ ?_ <;> clear hres <;> intro c hres <;> try simp only [qa, qaD] at c
            · refine sR ?_
              refine mI rfl ?_
              refine mI rfl ?_
              refine nS ?_
              exact rT hres rfl rfl rfl rfl rfl
            · refine rc_skip ?_
              refine pn_seq ?_
              refine sR ?_
              obtain ⟨f1, e9, a2⟩ := arr_addr (t := tI) r1 (i := 1) (by omega) (by omega)
              have a2 : f1 = vi (ix x1 1) := a2; subst a2
              refine rd_op (ov_iaddrA rfl rfl e9) ?_
              refine lR rfl rfl rfl ?_
              refine mV rfl ?_
              refine mI rfl ?_
              refine nS ?_
              exact rT hres rfl rfl rfl rfl rfl
          · refine rc_skip ?_
            refine pn_blk ?_
            refine pn_seq ?_
            refine rc_seq ?_
            refine sR ?_
            refine fL rfl (api_ExprNode.g_Op r0) rfl rfl ?_
            obtain ⟨d8, c8, hres⟩ := let_ex hres
            have c3 := f267_ok (x0 := x0.Op)  
            rw [c8] at c3
            refine cL c3 rfl rfl (clL_cons rfl clL_nil) ?_
            refine bN i_eql rfl rfl ?_
            refine mV rfl ?_
            refine rd_cutn 6 (d := 80) (v := vb ((decide (d8 = 2)) && (!decide ((ix x1 0) = (ix x1 1))))) ?_ ?_
            · intro S Q r
              cases d0 : (decide (d8 = 2))
              · exact gN 5 rfl rfl rfl rfl rfl rfl
              · intro k
                have a5 := d0
                try simp only [qa, qaD] at a5
                obtain ⟨f8, e8, b8⟩ := arr_addr (t := tI) r1 (i := 0) (by omega) (by omega)
                have b8 : f8 = vi (ix x1 0) := b8; subst b8
                refine rd_yes rfl rfl (ov_iaddrA rfl rfl e8) ?_
                refine rd_yes rfl rfl (ov_load rfl rfl rfl) ?_
                obtain ⟨e0, f4, a6⟩ := arr_addr (t := tI) r1 (i := 1) (by omega) (by omega)
                have a6 : e0 = vi (ix x1 1) := a6; subst a6
                refine rd_yes rfl rfl (ov_iaddrA rfl rfl f4) ?_
                refine rd_yes rfl rfl (ov_load rfl rfl rfl) ?_
                refine rd_yes rfl rfl (ov_bin rfl rfl i_neq) ?_
                exact gK rfl rfl rfl rfl rfl k
            refine nS ?_
            refine rc_br hres rfl ?_ ?_ <;> clear hres <;> intro c hres <;> try simp only [qa, qaD] at c
            · refine sR ?_
              refine mI rfl ?_
              refine mI rfl ?_
              refine nS ?_
              exact rT hres rfl rfl rfl rfl rfl
            · refine rc_skip ?_
              refine pn_seq ?_
              refine rc_seq ?_
              refine sR ?_
              refine fL rfl (api_ExprNode.g_Op r0) rfl rfl ?_
              refine bN i_eql rfl rfl ?_
              refine mV rfl ?_
              refine rd_cutn 4 (d := 88) (v := vb ((decide (x0.Op = 15)) || (decide (x0.Op = 16)))) ?_ ?_
              · intro S Q r
                cases d6 : (decide (x0.Op = 15))
                · intro k
                  have b4 := d6
                  try simp only [qa, qaD] at b4
                  refine rd_yes rfl rfl (ov_faddr rfl (api_ExprNode.g_Op r0)) ?_
                  refine rd_yes rfl rfl (ov_load rfl rfl rfl) ?_
                  refine rd_yes rfl rfl (ov_bin rfl rfl i_eql) ?_
                  exact gK rfl rfl rfl rfl rfl k
                · exact gN 3 rfl rfl rfl rfl rfl rfl
              refine nS ?_
              refine rc_br hres rfl ?_ ?_ <;> clear hres <;> intro c hres <;> try simp only [qa, qaD] at c
              · refine sR ?_
                refine mI rfl ?_
                refine mI rfl ?_
                refine nS ?_
                exact rT hres rfl rfl rfl rfl rfl
              · refine rc_skip ?_
                refine pn_seq ?_
                refine sR ?_
                obtain ⟨e2, g2, a1⟩ := arr_addr (t := tI) r1 (i := 0) (by omega) (by omega)
                have a1 : e2 = vi (ix x1 0) := a1; subst a1
                refine rd_op (ov_iaddrA rfl rfl g2) ?_
                refine lR rfl rfl rfl ?_
                refine mV rfl ?_
                refine mI rfl ?_
                refine nS ?_
                exact rT hres rfl rfl rfl rfl rfl
  · intro J
    refine rc_br hres rfl ?_ ?_ <;> clear hres <;> intro c hres <;> try simp only [qa, qaD] at c
    · refine rc_skip ?_
      refine pn_seq (wC (J _  hres) rfl)
    · refine rc_region ?_
      refine bN i_eql rfl rfl ?_
      refine mV rfl ?_
      refine rd_nil ?_
      refine pn_seq (wC (J _  hres) rfl)

end Go.Proofs.YtmonnlkagniolaaGreat
