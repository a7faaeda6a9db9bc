/-
  The code of each function does what its plain program says.
-/
import Derived.Test.YthdnpgpnodgicaaGreatL3W1
set_option linter.unusedVariables false
set_option linter.unusedSimpArgs false
set_option maxRecDepth 100000
namespace Go.Proofs.YthdnpgpnodgicaaGreat
open Go Go.Pb Go.RowKit
def RF49 (res : Bool) (r : PV) : Prop := r = vb res
theorem ref23_SameKey_L1_ok {S : List Fr} {res : Bool} {x0 : api_Entry} {x1 : api_Entry} {v0 v1 : PV} (r0 : api_Entry.t.R x0 v0) (r1 : api_Entry.t.R x1 v1) (a8 : ((!decide ((x0.Keys.length : Int) = (x1.Keys.length : Int))) || (!decide (x0.Priority = x1.Priority))) = false) {K0 : Unit → Bool}
    (c3 : K0 () = res → PX Tryz.prog 0 S (QR Tryz.prog [(4, none)] (RF49 res)) [] ⟨0, []⟩) :
    ∀ {m : Nat} {a0 : Int} (b5 : m = Int.toNat ((x0.Keys.length : Int) - a0)) (a4 : 0 ≤ a0), ref23_SameKey_L1 x0 x1 K0 m a0 = res → RC Tryz.prog (.loop ac49_L1) S (QR Tryz.prog [(4, none)] (RF49 res)) [(5, vi a0), (3, .fp v1), (2, .fp v0)] ⟨0, []⟩ := by
  have a2 := a8
  try simp only [qa, qaD] at a2
  intro m
  induction m with
  | zero =>
    intro a0 b5 a4 hres
    rw [ref23_SameKey_L1] at hres
    refine rc_loop ?_
    refine rc_seq ?_
    refine sR ?_
    refine mV rfl ?_
    obtain ⟨b7, b1, a6⟩ := api_Entry.g_Keys r0
    refine fA rfl b1 ?_
    refine lD a6 rfl rfl rfl ?_
    refine rd_op (ov_bi rfl (sl_len a6 Tryz.underlying38 _)) ?_
    refine bN i_lss rfl rfl ?_
    refine nS ?_
    refine rc_cond rfl ?_ ?_ <;> intro c <;> try simp only [qa, qaD] at c
    · omega
    refine rc_exit ?_
    refine px_seq ?_
    refine px_again ?_
    exact wP (c3  hres) rfl
  | succ m ih =>
    intro a0 b5 a4 hres
    rw [ref23_SameKey_L1] at hres
    refine rc_loop ?_
    refine rc_seq ?_
    refine sR ?_
    refine mV rfl ?_
    obtain ⟨c1, b3, a1⟩ := api_Entry.g_Keys r0
    refine fA rfl b3 ?_
    refine lD a1 rfl rfl rfl ?_
    refine rd_op (ov_bi rfl (sl_len a1 Tryz.underlying38 _)) ?_
    refine bN i_lss rfl rfl ?_
    refine nS ?_
    refine rc_cond rfl ?_ ?_ <;> intro c <;> try simp only [qa, qaD] at c
    rotate_left
    · omega
    refine rc_skip ?_
    refine pn_seq ?_
    refine rc_seq ?_
    refine rc_block ?_
    refine sR ?_
    obtain ⟨b9, b0, a3⟩ := api_Entry.g_Keys r0
    refine fA rfl b0 ?_
    refine lD a3 rfl rfl rfl ?_
    refine mV rfl ?_
    obtain ⟨b6, b2, a7⟩ := sl_idx (i := a0) a3 (by first | omega | (have hk := em_len (by assumption) (by assumption); omega)) (by first | omega | (have hk := em_len (by assumption) (by assumption); omega))
    refine rd_op (ov_iaddr rfl rfl b2) ?_
    refine lD a7 rfl rfl rfl ?_
    refine gL (api_Entry.g_Keys r1) rfl rfl rfl fun c0 a9 => ?_
    refine mV rfl ?_
    obtain ⟨b8, b4, a5⟩ := sl_idx (i := a0) a9 (by first | omega | (have hk := em_len (by assumption) (by assumption); omega)) (by first | omega | (have hk := em_len (by assumption) (by assumption); omega))
    refine rd_op (ov_iaddr rfl rfl b4) ?_
    refine lD a5 rfl rfl rfl ?_
    refine bN (api_KeyMatch.neq_127 a7 a5) rfl rfl ?_
    refine nS ?_
    refine rc_br hres rfl ?_ ?_ <;> clear hres <;> intro c hres <;> try simp only [qa, qaD] at c
    · refine sR ?_
      refine mB rfl ?_
      refine nS ?_
      exact rR hres rfl rfl rfl
    · refine rc_skip ?_
      refine pn_blk ?_
      refine pn_seq ?_
      refine rc_region ?_
      refine mV rfl ?_
      refine bN i_add rfl rfl ?_
      refine mV rfl ?_
      refine rd_nil ?_
      refine pn_again ?_
      have hbd := sl_bound a1
      have hinc : wr (a0 + 1) = a0 + 1 := wr_of (by omega) (by omega)
      erw [hinc]
      exact wC (ih   (by omega) (by omega) hres) rfl

theorem f49_ok {x0 : api_Entry} {x1 : api_Entry} {v0 v1 : PV} (r0 : api_Entry.t.R x0 v0) (r1 : api_Entry.t.R x1 v1) : FnR Tryz.prog 49 [v0, v1] (vb (ref23_SameKey x0 x1)) := by
  refine fnS (R := RF49) text49 (fun _ h => h) rfl fun res hres => ?_
  unfold ref23_SameKey at hres
  refine sR ?_
  refine rd_op (ov_box rfl (TR.cnt api_Entry.t r0)) ?_
  refine rd_op (ov_box rfl (TR.cnt api_Entry.t r1)) ?_
  refine mB rfl ?_
  refine nS ?_
  refine rc_seq ?_
  refine sR ?_
  refine gL (api_Entry.g_Keys r0) rfl rfl rfl fun a7 a6 => ?_
  refine rd_op (ov_bi rfl (sl_len a6 Tryz.underlying38 _)) ?_
  obtain ⟨a8, a5, a4⟩ := api_Entry.g_Keys r1
  refine fA rfl a5 ?_
  refine lD a4 rfl rfl rfl ?_
  refine rd_op (ov_bi rfl (sl_len a4 Tryz.underlying38 _)) ?_
  refine bN i_neq rfl rfl ?_
  refine mV rfl ?_
  refine rd_cutn 6 (d := 19) (v := vb ((!decide ((x0.Keys.length : Int) = (x1.Keys.length : Int))) || (!decide (x0.Priority = x1.Priority)))) ?_ ?_
  · intro S Q r
    cases a3 : (!decide ((x0.Keys.length : Int) = (x1.Keys.length : Int)))
    · intro k
      have a2 := a3
      try simp only [qa, qaD] at a2
      refine rd_yes rfl rfl (ov_faddr rfl (api_Entry.g_Priority r0)) ?_
      refine rd_yes rfl rfl (ov_load rfl rfl rfl) ?_
      refine rd_yes rfl rfl (ov_faddr rfl (api_Entry.g_Priority r1)) ?_
      refine rd_yes rfl rfl (ov_load rfl rfl rfl) ?_
      refine rd_yes rfl rfl (ov_bin rfl rfl i_neq) ?_
      exact gK rfl rfl rfl rfl rfl k
    · exact gN 5 rfl rfl rfl rfl rfl rfl
  refine nS ?_
  refine rc_br hres rfl ?_ ?_ <;> clear hres <;> intro a0 hres <;> have a1 := a0 <;> try simp only [qa, qaD] at a1
  · refine sR ?_
    refine mB rfl ?_
    refine nS ?_
    exact rR hres rfl rfl rfl
  · refine rc_skip ?_
    refine pn_seq ?_
    refine rc_seq ?_
    refine sR ?_
    refine mI rfl ?_
    refine nS ?_
    refine rc_block ?_
    refine wC (ref23_SameKey_L1_ok r0 r1 a0 ?_  rfl (by omega) hres) rfl
    · intro  hres
      refine px_blk ?_
      refine pn_seq ?_
      refine sR ?_
      refine mB rfl ?_
      refine nS ?_
      exact rR hres rfl rfl rfl

def RF72 (res : Bool) (r : PV) : Prop := r = vb res
theorem ref23_EqualCalls_L1_ok {S : List Fr} {res : Bool} {x0 : api_ActionCall} {x1 : api_ActionCall} {v0 v1 : PV} (r0 : api_ActionCall.t.R x0 v0) (r1 : api_ActionCall.t.R x1 v1) (a5 : ((!decide (x0.Action = x1.Action)) || (!decide ((x0.Args.length : Int) = (x1.Args.length : Int)))) = false) {K0 : Unit → Bool}
    (b4 : K0 () = res → PX Tryz.prog 0 S (QR Tryz.prog [(4, none)] (RF72 res)) [] ⟨0, []⟩) :
    ∀ {m : Nat} {a0 : Int} (a9 : m = Int.toNat ((x0.Args.length : Int) - a0)) (a3 : 0 ≤ a0), ref23_EqualCalls_L1 x0 x1 K0 m a0 = res → RC Tryz.prog (.loop ac72_L1) S (QR Tryz.prog [(4, none)] (RF72 res)) [(5, vi a0), (3, .fp v1), (2, .fp v0)] ⟨0, []⟩ := by
  have a1 := a5
  try simp only [qa, qaD] at a1
  intro m
  induction m with
  | zero =>
    intro a0 a9 a3 hres
    rw [ref23_EqualCalls_L1] at hres
    refine rc_loop ?_
    refine rc_seq ?_
    refine sR ?_
    refine mV rfl ?_
    obtain ⟨b1, a7, a4⟩ := api_ActionCall.g_Args r0
    refine fA rfl a7 ?_
    refine lD a4 rfl rfl rfl ?_
    refine rd_op (ov_bi rfl (sl_len a4 Tryz.underlying33 _)) ?_
    refine bN i_lss rfl rfl ?_
    refine nS ?_
    refine rc_cond rfl ?_ ?_ <;> intro c <;> try simp only [qa, qaD] at c
    · omega
    refine rc_exit ?_
    refine px_seq ?_
    refine px_again ?_
    exact wP (b4  hres) rfl
  | succ m ih =>
    intro a0 a9 a3 hres
    rw [ref23_EqualCalls_L1] at hres
    refine rc_loop ?_
    refine rc_seq ?_
    refine sR ?_
    refine mV rfl ?_
    refine gL (api_ActionCall.g_Args r0) rfl rfl rfl fun b3 a2 => ?_
    refine rd_op (ov_bi rfl (sl_len a2 Tryz.underlying33 _)) ?_
    refine bN i_lss rfl rfl ?_
    refine nS ?_
    refine rc_cond rfl ?_ ?_ <;> intro c <;> try simp only [qa, qaD] at c
    rotate_left
    · omega
    refine rc_skip ?_
    refine pn_seq ?_
    refine rc_seq ?_
    refine rc_block ?_
    refine sR ?_
    refine gL (api_ActionCall.g_Args r0) rfl rfl rfl fun b2 a6 => ?_
    refine mV rfl ?_
    refine rd_op (ov_iaddr rfl rfl (slU32 a6 (by first | omega | (have hk := em_len (by assumption) (by assumption); omega)) (by first | omega | (have hk := em_len (by assumption) (by assumption); omega)))) ?_
    refine lR rfl rfl rfl ?_
    refine gL (api_ActionCall.g_Args r1) rfl rfl rfl fun b0 a8 => ?_
    refine mV rfl ?_
    refine rd_op (ov_iaddr rfl rfl (slU32 a8 (by first | omega | (have hk := em_len (by assumption) (by assumption); omega)) (by first | omega | (have hk := em_len (by assumption) (by assumption); omega)))) ?_
    refine lR rfl rfl rfl ?_
    refine rd_op (ov_bin (a := vu32 (ix x0.Args a0)) (b := vu32 (ix x1.Args a0)) rfl rfl w_neq) ?_
    refine nS ?_
    refine rc_br hres rfl ?_ ?_ <;> clear hres <;> intro c hres <;> try simp only [qa, qaD] at c
    · refine sR ?_
      refine mB rfl ?_
      refine nS ?_
      exact rR hres rfl rfl rfl
    · refine rc_skip ?_
      refine pn_blk ?_
      refine pn_seq ?_
      refine rc_region ?_
      refine mV rfl ?_
      refine bN i_add rfl rfl ?_
      refine mV rfl ?_
      refine rd_nil ?_
      refine pn_again ?_
      have hbd := sl_bound a2
      have hinc : wr (a0 + 1) = a0 + 1 := wr_of (by omega) (by omega)
      erw [hinc]
      exact wC (ih   (by omega) (by omega) hres) rfl

theorem f72_ok {x0 : api_ActionCall} {x1 : api_ActionCall} {v0 v1 : PV} (r0 : api_ActionCall.t.R x0 v0) (r1 : api_ActionCall.t.R x1 v1) : FnR Tryz.prog 72 [v0, v1] (vb (ref23_EqualCalls x0 x1)) := by
  refine fnS (R := RF72) text72 (fun _ h => h) rfl fun res hres => ?_
  unfold ref23_EqualCalls at hres
  refine sR ?_
  refine rd_op (ov_box rfl (TR.cnt api_ActionCall.t r0)) ?_
  refine rd_op (ov_box rfl (TR.cnt api_ActionCall.t r1)) ?_
  refine mB rfl ?_
  refine nS ?_
  refine rc_seq ?_
  refine sR ?_
  refine fL rfl (api_ActionCall.g_Action r0) rfl rfl ?_
  refine fL rfl (api_ActionCall.g_Action r1) rfl rfl ?_
  refine bN i_neq rfl rfl ?_
  refine mV rfl ?_
  refine rd_cutn 8 (d := 19) (v := vb ((!decide (x0.Action = x1.Action)) || (!decide ((x0.Args.length : Int) = (x1.Args.length : Int))))) ?_ ?_
  · intro S Q r
    cases a5 : (!decide (x0.Action = x1.Action))
    · intro k
      have a2 := a5
      try simp only [qa, qaD] at a2
      obtain ⟨a9, a6, a4⟩ := api_ActionCall.g_Args r0
      refine rd_yes rfl rfl (ov_faddr rfl a6) ?_
      refine rd_yes rfl rfl (ov_load rfl (TR.cnt (tSl tU32) a4) (TR.agg (tSl tU32) a4)) ?_
      refine rd_yes rfl rfl (ov_bi rfl (sl_len a4 Tryz.underlying33 _)) ?_
      obtain ⟨a8, a7, a3⟩ := api_ActionCall.g_Args r1
      refine rd_yes rfl rfl (ov_faddr rfl a7) ?_
      refine rd_yes rfl rfl (ov_load rfl (TR.cnt (tSl tU32) a3) (TR.agg (tSl tU32) a3)) ?_
      refine rd_yes rfl rfl (ov_bi rfl (sl_len a3 Tryz.underlying33 _)) ?_
      refine rd_yes rfl rfl (ov_bin rfl rfl i_neq) ?_
      exact gK rfl rfl rfl rfl rfl k
    · exact gN 7 rfl rfl rfl rfl rfl rfl
  refine nS ?_
  refine rc_br hres rfl ?_ ?_ <;> clear hres <;> intro a0 hres <;> have a1 := a0 <;> try simp only [qa, qaD] at a1
  · refine sR ?_
    refine mB rfl ?_
    refine nS ?_
    exact rR hres rfl rfl rfl
  · refine rc_skip ?_
    refine pn_seq ?_
    refine rc_seq ?_
    refine sR ?_
    refine mI rfl ?_
    refine nS ?_
    refine rc_block ?_
    refine wC (ref23_EqualCalls_L1_ok r0 r1 a0 ?_  rfl (by omega) hres) rfl
    · intro  hres
      refine px_blk ?_
      refine pn_seq ?_
      refine sR ?_
      refine mB rfl ?_
      refine nS ?_
      exact rR hres rfl rfl rfl

def RF38 (res : Bool) (r : PV) : Prop := r = vb res
theorem f38_ok {x0 : api_Entry} {x1 : api_Entry} {v0 v1 : PV} (r0 : api_Entry.t.R x0 v0) (r1 : api_Entry.t.R x1 v1) : FnR Tryz.prog 38 [v0, v1] (vb (ref23_Equal x0 x1)) := by
  refine fnS (R := RF38) text38 (fun _ h => h) rfl fun res hres => ?_
  unfold ref23_Equal at hres
  refine sR ?_
  refine rd_op (ov_box rfl (TR.cnt api_Entry.t r0)) ?_
  refine rd_op (ov_box rfl (TR.cnt api_Entry.t r1)) ?_
  refine mB rfl ?_
  refine nR ?_
  refine lD r0 rfl rfl rfl ?_
  refine lD r1 rfl rfl rfl ?_
  obtain ⟨a3, a6, hres⟩ := let_ex hres
  have a4 := f49_ok  r0 r1 
  rw [a6] at a4
  refine cL a4 rfl rfl (clL_cons (TR.clo api_Entry.t r0) (clL_cons (TR.clo api_Entry.t r1) clL_nil)) ?_
  refine mV rfl ?_
  refine rd_cutn 6 (d := 14) (v := vb (a3 && (ref23_EqualCalls x0.Call x1.Call))) ?_ ?_
  · intro S Q r
    cases a5 : a3
    · exact gN 5 rfl rfl rfl rfl rfl rfl
    · intro k
      have a2 := a5
      try simp only [qa, qaD] at a2
      obtain ⟨b0, a8, a1⟩ := api_Entry.g_Call r0
      refine rd_yes rfl rfl (ov_faddr rfl a8) ?_
      refine rd_yes rfl rfl (ov_load rfl (TR.cnt api_ActionCall.t a1) (TR.agg api_ActionCall.t a1)) ?_
      obtain ⟨b1, a7, a0⟩ := api_Entry.g_Call r1
      refine rd_yes rfl rfl (ov_faddr rfl a7) ?_
      refine rd_yes rfl rfl (ov_load rfl (TR.cnt api_ActionCall.t a0) (TR.agg api_ActionCall.t a0)) ?_
      have a9 := f72_ok  a1 a0 
      refine rd_ycall rfl rfl (cv_fn rfl rfl (clL_cons (TR.clo api_ActionCall.t a1) (clL_cons (TR.clo api_ActionCall.t a0) clL_nil)) a9) ?_
      exact gK rfl rfl rfl rfl rfl k
  refine mV rfl ?_
  refine nS ?_
  exact rR hres rfl rfl rfl

def RF14 (res : Bool) (r : PV) : Prop := r = vb res
theorem f14_ok {x0 : api_Row} {x1 : api_Row} {v0 v1 : PV} (r0 : api_Row.t.R x0 v0) (r1 : api_Row.t.R x1 v1) : FnR Tryz.prog 14 [v0, v1] (vb (law24_equal x0 x1)) := by
  refine fnS (R := RF14) text14 (fun _ h => h) rfl fun res hres => ?_
  unfold law24_equal at hres
  refine sR ?_
  refine rd_op (ov_box rfl (TR.cnt api_Row.t r0)) ?_
  refine rd_op (ov_box rfl (TR.cnt api_Row.t r1)) ?_
  refine mB rfl ?_
  refine nR ?_
  refine fL rfl (api_Row.g_ID r0) rfl rfl ?_
  refine fL rfl (api_Row.g_ID r1) rfl rfl ?_
  refine bN i_eql rfl rfl ?_
  refine mV rfl ?_
  refine rd_cutn 6 (d := 16) (v := vb ((decide (x0.ID = x1.ID)) && (ref23_Equal x0.Entry x1.Entry))) ?_ ?_
  · intro S Q r
    cases a3 : (decide (x0.ID = x1.ID))
    · exact gN 5 rfl rfl rfl rfl rfl rfl
    · intro k
      have a2 := a3
      try simp only [qa, qaD] at a2
      obtain ⟨a8, a5, a1⟩ := api_Row.g_Entry r0
      refine rd_yes rfl rfl (ov_faddr rfl a5) ?_
      refine rd_yes rfl rfl (ov_load rfl (TR.cnt api_Entry.t a1) (TR.agg api_Entry.t a1)) ?_
      obtain ⟨a7, a6, a0⟩ := api_Row.g_Entry r1
      refine rd_yes rfl rfl (ov_faddr rfl a6) ?_
      refine rd_yes rfl rfl (ov_load rfl (TR.cnt api_Entry.t a0) (TR.agg api_Entry.t a0)) ?_
      have a4 := f38_ok  a1 a0 
      refine rd_ycall rfl rfl (cv_fn rfl rfl (clL_cons (TR.clo api_Entry.t a1) (clL_cons (TR.clo api_Entry.t a0) clL_nil)) a4) ?_
      exact gK rfl rfl rfl rfl rfl k
  refine mV rfl ?_
  refine nS ?_
  exact rR hres rfl rfl rfl

def RF3 (res : Bool) (r : PV) : Prop := r = vb res
theorem f3_ok {x0 : law24_Case} {v0 : PV} (r0 : law24_Case.t.R x0 v0) : FnR Tryz.prog 3 [v0] (vb (law24_LookupBest x0)) := by
  refine fnS (R := RF3) text3 (fun _ h => h) rfl fun res hres => ?_
  unfold law24_LookupBest at hres
  refine sR ?_
  refine rd_op (ov_box rfl (TR.cnt law24_Case.t r0)) ?_
  refine mB rfl ?_
  refine nS ?_
  refine rc_seq ?_
  refine sR ?_
  refine lD r0 rfl rfl rfl ?_
  obtain ⟨e2, c7, hres⟩ := let_ex hres
  have c1 := f10_ok  r0 
  rw [c7] at c1
  refine cL c1 rfl rfl (clL_cons (TR.clo law24_Case.t r0) clL_nil) ?_
  refine nS ?_
  refine rc_br hres rfl ?_ ?_ <;> clear hres <;> intro c hres <;> try simp only [qa, qaD] at c
  · refine sR ?_
    obtain ⟨e8, b8, hres⟩ := let_ex hres
    have c6 := f11_ok   
    rw [b8] at c6
    refine cL c6 rfl rfl clL_nil ?_
    refine mV rfl ?_
    refine nS ?_
    exact rR hres rfl rfl rfl
  · refine rc_skip ?_
    refine pn_seq ?_
    refine sR ?_
    refine gL (law24_Case.g_Program r0) rfl rfl rfl fun e7 b3 => ?_
    refine fL rfl (law24_Case.g_Table r0) rfl rfl ?_
    refine gL (law24_Case.g_Rows r0) rfl rfl rfl fun e0 c3 => ?_
    refine gL (law24_Case.g_Key r0) rfl rfl rfl fun e3 b9 => ?_
    obtain ⟨a4, d0, hres⟩ := let_ex hres
    obtain ⟨a7, c4, a0⟩ := f12_ok (x1 := x0.Table) b3 c3 b9 (by exact tl (by assumption) (by assumption))
    rw [d0] at c4 a0
    refine cL c4 rfl rfl (clL_cons (TR.clo api_Program.t b3) (clL_cons rfl (clL_cons (TR.clo (tSl api_Row.t) c3) (clL_cons (TR.clo (tSl tU32) b9) clL_nil)))) ?_
    refine mV rfl ?_
    refine xT rfl rfl ?_
    refine xT rfl rfl ?_
    refine rd_allocO (x := .agg [vi 0, nilS, vi 0, vi 0, nilS]) (Mem.nil ⟨0, []⟩) rfl rfl (fun c8 b0 e4 d6 => ?_)
    refine rd_storeO (k := 0) (v := a7) d6 rfl rfl rfl (TR.cnt api_Row.t a0) (fun d8 a9 => ?_)
    replace a9 : Mem d8 [⟨.op c8 b0 0, 44, 5, [a7]⟩] := a9
    refine mV rfl ?_
    refine nR ?_
    refine gL (law24_Case.g_Program r0) rfl rfl rfl fun e1 c0 => ?_
    refine fL rfl (law24_Case.g_Table r0) rfl rfl ?_
    refine gL (law24_Case.g_Rows r0) rfl rfl rfl fun d9 b4 => ?_
    refine gL (law24_Case.g_Key r0) rfl rfl rfl fun e6 b7 => ?_
    obtain ⟨a8, b5, hres⟩ := let_ex hres
    obtain ⟨c5, b6, a1⟩ := f13_ok (x1 := x0.Table) c0 b4 b7 
    rw [b5] at b6 a1
    refine cL b6 rfl rfl (clL_cons (TR.clo api_Program.t c0) (clL_cons rfl (clL_cons (TR.clo (tSl api_Row.t) b4) (clL_cons (TR.clo (tSl tU32) b7) clL_nil)))) ?_
    refine mV rfl ?_
    refine xT rfl rfl ?_
    refine xT rfl rfl ?_
    refine rd_allocO (x := .agg [vi 0, nilS, vi 0, vi 0, nilS]) a9 rfl rfl (fun d5 d2 e5 d4 => ?_)
    refine rd_storeO (k := 0) (v := c5) d4 rfl rfl rfl (TR.cnt api_Row.t a1) (fun d7 a2 => ?_)
    replace a2 : Mem d7 [⟨.op d5 d2 0, 44, 5, [c5]⟩, ⟨.op c8 b0 0, 44, 5, [a7]⟩] := a2
    refine mV rfl ?_
    refine nR ?_
    refine rd_op (ov_load0 (k := 1) a2 rfl rfl (TR.agg api_Row.t a0)) ?_
    refine rd_op (ov_load0 (k := 0) a2 rfl rfl (TR.agg api_Row.t a1)) ?_
    obtain ⟨a3, b1, hres⟩ := let_ex hres
    have c9 := f14_ok  a0 a1 
    rw [b1] at c9
    refine cL c9 rfl rfl (clL_cons (TR.clo api_Row.t a0) (clL_cons (TR.clo api_Row.t a1) clL_nil)) ?_
    refine mV rfl ?_
    refine rd_cutn 4 (d := 41) (v := vb (a3 && (decide (a4.2 = a8.2)))) ?_ ?_
    · intro S Q r
      cases d1 : a3
      · exact gN 3 rfl rfl rfl rfl rfl rfl
      · intro k
        have a5 := d1
        try simp only [qa, qaD] at a5
        refine rd_yes rfl rfl (ov_move rfl) ?_
        refine rd_yes rfl rfl (ov_move rfl) ?_
        refine rd_yes rfl rfl (ov_bin rfl rfl (bin_eqlb (by rw [Tryz.underlying4]; rfl))) ?_
        exact gK rfl rfl rfl rfl rfl k
    refine mV rfl ?_
    refine rd_cutn 2 (d := 44) (v := vb ((a3 && (decide (a4.2 = a8.2))) && (law24_works))) ?_ ?_
    · intro S Q r
      cases b2 : (a3 && (decide (a4.2 = a8.2)))
      · exact gN 1 rfl rfl rfl rfl rfl rfl
      · intro k
        have a6 := b2
        try simp only [qa, qaD] at a6
        have d3 := f11_ok   
        refine rd_ycall rfl rfl (cv_fn rfl rfl clL_nil d3) ?_
        exact gK rfl rfl rfl rfl rfl k
    refine mV rfl ?_
    refine nS ?_
    exact rR hres rfl rfl rfl

end Go.Proofs.YthdnpgpnodgicaaGreat
