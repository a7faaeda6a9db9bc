/-
  The code of each function does what its plain program says.
-/
import Derived.Test.YthdnpgpnodgicaaGreatKDef
import Derived.Test.YthdnpgpnodgicaaGreatL9Text
import Derived.Test.YthdnpgpnodgicaaGreatPbC
import Derived.Test.YthdnpgpnodgicaaGreatL9Run
set_option linter.unusedVariables false
set_option linter.unusedSimpArgs false
set_option maxRecDepth 100000
namespace Go.Proofs.YthdnpgpnodgicaaGreat
open Go Go.Pb Go.RowKit
theorem f11_ok : FnR Tryz.prog 11 [] (vb law24_works) := run11

def tblN : List (FT Tryz.prog) := [⟨[], _, _, _, _, _, _, text26⟩, ⟨[], _, _, _, _, _, _, text17⟩, ⟨[], _, _, _, _, _, _, text18⟩, ⟨[], _, _, _, _, _, _, text14⟩, ⟨[], _, _, _, _, _, _, text38⟩, ⟨[], _, _, _, _, _, _, text49⟩, ⟨[], _, _, _, _, _, _, text72⟩]
def zix : PV := .agg [vs [], nilS, nilS, nilS, nilS, nilS, nilS, nilS, nilS, vi 0, vi 0, nilS, nilS, vi 0, .sc (.map none), .sc (.map none)]
theorem empty_nil (v : PV) : FnR Tryz.prog 26 [.sc (.pointer none), v] (vb true) := run_true (tb := tblN) (n := 100000) (by kernel_rfl)
theorem empty_zero (v : PV) : FnR Tryz.prog 26 [.fp zix, v] (vb true) := run_true (tb := tblN) (n := 100000) (by kernel_rfl)
theorem f9_ok {x0 : List (BitVec 32)} {v0 : PV} (r0 : (tSl tU32).R x0 v0) : FnR Tryz.prog 9 [v0] (vb (law24_LookupNil x0)) := by
  obtain ⟨r, h1, rfl⟩ : ∃ r, FnR Tryz.prog 9 [v0] r ∧ r = vb true := by
    refine fnE text9 (by simp) ?_
    refine rc_seq (rc_region (rd_op (v := vb false) (ov_move rfl) (rd_nil (pn_seq ?_))))
    refine rc_seq (rc_seq (rc_region (rd_op (ov_move rfl) (rd_op (ov_bi rfl (sl_len r0 Tryz.underlying33 _)) (rd_op (ov_bin rfl rfl i_gtr) (rd_nil (pn_seq (rc_cond rfl (fun hc => ?_) fun hc => ?_))))))))
    · refine rc_seq (rc_region (rd_call (cv_fn rfl rfl clL_nil run11) (rd_op (ov_move rfl) (rd_nil (pn_seq ?_)))))
      exact rc_retV (.tmp rfl .nil) (deep_closed rfl) rfl
    · refine rc_skip (pn_seq (rc_seq (rc_region ?_)))
      refine rd_op (ov_move rfl) (rd_call (cv_fn rfl rfl (clL_cons rfl (clL_cons (TR.clo _ r0) clL_nil)) (empty_nil v0)) (rd_op (ov_move rfl) ?_))
      refine rd_yes rfl rfl (v := zix) (ov_build (cs := [vs [], nilS, nilS, nilS, nilS, nilS, nilS, nilS, nilS, vi 0, vi 0, nilS, nilS, vi 0, .sc (.map none), .sc (.map none)]) rfl rfl) (rd_yes rfl rfl (ov_box rfl rfl) (rd_yes rfl rfl (ov_move rfl) ?_))
      refine rd_ycall rfl rfl (cv_fn rfl rfl (clL_cons rfl (clL_cons (TR.clo _ r0) clL_nil)) (empty_zero v0)) (rd_op (v := vb true) (ov_pick rfl rfl rfl rfl) (rd_op (ov_move rfl) ?_))
      refine rd_ycall rfl rfl (cv_fn rfl rfl clL_nil run11) (rd_op (v := vb true) (ov_pick rfl rfl rfl rfl) (rd_op (ov_move rfl) (rd_nil (pn_seq ?_))))
      exact rc_retV (.tmp rfl .nil) (deep_closed rfl) rfl
  exact h1

end Go.Proofs.YthdnpgpnodgicaaGreat
