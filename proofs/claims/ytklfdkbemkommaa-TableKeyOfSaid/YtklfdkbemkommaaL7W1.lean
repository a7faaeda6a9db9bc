/-
 The code of each function does what its plain program says.
-/
import Derived.Test.YtklfdkbemkommaaL7W0
set_option linter.unusedVariables false
set_option linter.unusedSimpArgs false
set_option maxRecDepth 100000
namespace Go.Proofs.Ytklfdkbemkommaa
open Go Go.Pb Go.RowKit
/-- patchbay/lexer.isDigit -/
def RF74 (res : Bool) (r : PV) : Prop := r = vb res
theorem f74_ok {x0 : UInt8} : FnR Try.prog 74 [vu8 x0] (vb (lexer_isDigit x0)) := by
 obtain ⟨res, hres⟩ : ∃ res, lexer_isDigit x0 = res := ⟨_, rfl⟩
 suffices H : RC Try.prog ac74 [] (QR Try.prog [(2, none)] (RF74 res)) (argE 0 [vu8 x0]) ⟨0, []⟩ by
  obtain ⟨r, h1, h2⟩ := fnE text74 (by simp) H
  rw [hres]
  have h2 : r = vb res := h2
  rw [← h2]; exact h1
 unfold lexer_isDigit at hres
 unfold ac74
 refine rc_seq ?_
 refine rc_region ?_
 refine rd_op (v := vb false) (ov_move rfl) ?_
 refine rd_nil ?_
 refine pn_seq ?_
 refine rc_seq ?_
 refine rc_region ?_
 refine rd_op (ov_move rfl) ?_
 refine rd_op (ov_bin (a := vu8 x0) (b := vu8 (48 : UInt8)) rfl rfl y_geq) ?_
 refine rd_op (ov_move rfl) ?_
 refine rd_cut (d := 8) (v := vb ((decide ((48 : UInt8) ≤ x0)) && (decide (x0 ≤ (57 : UInt8))))) ?_ ?_
 ·intro S Q r
  simp only [ac74_G1, List.cons_append, List.nil_append, List.append_assoc]
  cases hb101 : (decide ((48 : UInt8) ≤ x0))
  ·intro k
   refine rd_skip rfl rfl ?_
   refine rd_skip rfl rfl ?_
   refine rd_op (v := vb false) (ov_pick rfl rfl rfl rfl) ?_
   exact rd_weak (sub_cons rfl (sub_skip rfl (sub_skip rfl (sub_skip rfl (sub_refl _))))) k
  ·intro k
   have hb101' := hb101
   try simp only [qa1, qa2, qa3, qa4, qa5, qa6, qa7, qa8, qa9, qaA, qaB, qaC, qaD] at hb101'
   refine rd_yes rfl rfl (ov_move rfl) ?_
   refine rd_yes rfl rfl (ov_bin (a := vu8 x0) (b := vu8 (57 : UInt8)) rfl rfl y_leq) ?_
   refine rd_op (v := vb (decide (x0 ≤ (57 : UInt8)))) (ov_pick rfl rfl rfl rfl) ?_
   exact rd_weak (sub_cons rfl (sub_skip rfl (sub_skip rfl (sub_skip rfl (sub_refl _))))) k
 refine rd_op (ov_move rfl) ?_
 refine rd_nil ?_
 refine pn_seq ?_
 subst hres
 exact rc_retV (.tmp rfl .nil) (deep_closed rfl) rfl

/-- patchbay/lexer.IsIdentifier$1 -/
def RF73 (res : Bool) (r : PV) : Prop := r = vb res
theorem f73_ok {x0 : UInt8} : FnR Try.prog 73 [vu8 x0] (vb (lexer_IsIdentifier_1 x0)) := by
 obtain ⟨res, hres⟩ : ∃ res, lexer_IsIdentifier_1 x0 = res := ⟨_, rfl⟩
 suffices H : RC Try.prog ac73 [] (QR Try.prog [(2, none)] (RF73 res)) (argE 0 [vu8 x0]) ⟨0, []⟩ by
  obtain ⟨r, h1, h2⟩ := fnE text73 (by simp) H
  rw [hres]
  have h2 : r = vb res := h2
  rw [← h2]; exact h1
 unfold lexer_IsIdentifier_1 at hres
 unfold ac73
 refine rc_seq ?_
 refine rc_region ?_
 refine rd_op (v := vb false) (ov_move rfl) ?_
 refine rd_nil ?_
 refine pn_seq ?_
 refine rc_seq ?_
 refine rc_region ?_
 refine rd_op (ov_move rfl) ?_
 obtain ⟨y101, hw101, hres⟩ := let_ex hres
 have f101 := f71_ok (x0 := x0)  
 rw [hw101] at f101
 refine rd_call (cv_fn rfl rfl (clL_cons rfl clL_nil) f101) ?_
 refine rd_op (ov_move rfl) ?_
 refine rd_cut (d := 8) (v := vb (y101 || (lexer_isDigit x0))) ?_ ?_
 ·intro S Q r
  simp only [ac73_G1, List.cons_append, List.nil_append, List.append_assoc]
  cases hb102 : y101
  ·intro k
   have hb102' := hb102
   try simp only [qa1, qa2, qa3, qa4, qa5, qa6, qa7, qa8, qa9, qaA, qaB, qaC, qaD] at hb102'
   refine rd_yes rfl rfl (ov_move rfl) ?_
   have f103 := f74_ok (x0 := x0)  
   refine rd_ycall rfl rfl (cv_fn rfl rfl (clL_cons rfl clL_nil) f103) ?_
   refine rd_op (v := vb (lexer_isDigit x0)) (ov_pick rfl rfl rfl rfl) ?_
   exact rd_weak (sub_cons rfl (sub_skip rfl (sub_skip rfl (sub_skip rfl (sub_refl _))))) k
  ·intro k
   refine rd_skip rfl rfl ?_
   refine rd_skip rfl rfl ?_
   refine rd_op (v := vb true) (ov_pick rfl rfl rfl rfl) ?_
   exact rd_weak (sub_cons rfl (sub_skip rfl (sub_skip rfl (sub_skip rfl (sub_refl _))))) k
 refine rd_op (ov_move rfl) ?_
 refine rd_cut (d := 12) (v := vb ((y101 || (lexer_isDigit x0)) || (decide (x0 = (95 : UInt8))))) ?_ ?_
 ·intro S Q r
  simp only [ac73_G2, List.cons_append, List.nil_append, List.append_assoc]
  cases hb104 : (y101 || (lexer_isDigit x0))
  ·intro k
   have hb104' := hb104
   try simp only [qa1, qa2, qa3, qa4, qa5, qa6, qa7, qa8, qa9, qaA, qaB, qaC, qaD] at hb104'
   refine rd_yes rfl rfl (ov_move rfl) ?_
   refine rd_yes rfl rfl (ov_bin (a := vu8 x0) (b := vu8 (95 : UInt8)) rfl rfl y_eql) ?_
   refine rd_op (v := vb (decide (x0 = (95 : UInt8)))) (ov_pick rfl rfl rfl rfl) ?_
   exact rd_weak (sub_cons rfl (sub_skip rfl (sub_skip rfl (sub_skip rfl (sub_refl _))))) k
  ·intro k
   refine rd_skip rfl rfl ?_
   refine rd_skip rfl rfl ?_
   refine rd_op (v := vb true) (ov_pick rfl rfl rfl rfl) ?_
   exact rd_weak (sub_cons rfl (sub_skip rfl (sub_skip rfl (sub_skip rfl (sub_refl _))))) k
 refine rd_op (ov_move rfl) ?_
 refine rd_nil ?_
 refine pn_seq ?_
 subst hres
 exact rc_retV (.tmp rfl .nil) (deep_closed rfl) rfl

theorem tfn73 : (tFn Try.prog tU8 tB).R lexer_IsIdentifier_1 (.fn (.func 73) [] []) := tFn_of fun a va ra => by obtain rfl := ra; exact ⟨_, f73_ok, rfl⟩

/-- patchbay/lexer.IsIdentifier -/
def RF46 (res : Bool) (r : PV) : Prop := r = vb res
theorem f46_ok {x0 : List UInt8} : FnR Try.prog 46 [vs x0] (vb (lexer_IsIdentifier x0)) := by
 obtain ⟨res, hres⟩ : ∃ res, lexer_IsIdentifier x0 = res := ⟨_, rfl⟩
 suffices H : RC Try.prog ac46 [] (QR Try.prog [(2, none)] (RF46 res)) (argE 0 [vs x0]) ⟨0, []⟩ by
  obtain ⟨r, h1, h2⟩ := fnE text46 (by simp) H
  rw [hres]
  have h2 : r = vb res := h2
  rw [← h2]; exact h1
 unfold lexer_IsIdentifier at hres
 unfold ac46
 refine rc_seq ?_
 refine rc_region ?_
 refine rd_op (v := vb false) (ov_move rfl) ?_
 refine rd_nil ?_
 refine pn_seq ?_
 refine rc_seq ?_
 refine rc_seq ?_
 refine rc_region ?_
 refine rd_op (ov_move rfl) ?_
 refine rd_op (ov_bi rfl (str_len Try.underlying9)) ?_
 refine rd_op (ov_bin rfl rfl i_eql) ?_
 refine rd_op (ov_move rfl) ?_
 refine rd_cut (d := 10) (v := vb ((decide ((x0.length : Int) = 0)) || (decide (16 < (x0.length : Int))))) ?_ ?_
 ·intro S Q r
  simp only [ac46_G1, List.cons_append, List.nil_append, List.append_assoc]
  cases hb101 : (decide ((x0.length : Int) = 0))
  ·intro k
   have hb101' := hb101
   try simp only [qa1, qa2, qa3, qa4, qa5, qa6, qa7, qa8, qa9, qaA, qaB, qaC, qaD] at hb101'
   refine rd_yes rfl rfl (ov_move rfl) ?_
   refine rd_yes rfl rfl (ov_bi rfl (str_len Try.underlying9)) ?_
   refine rd_yes rfl rfl (ov_bin rfl rfl i_gtr) ?_
   refine rd_op (v := vb (decide (16 < (x0.length : Int)))) (ov_pick rfl rfl rfl rfl) ?_
   exact rd_weak (sub_cons rfl (sub_skip rfl (sub_skip rfl (sub_skip rfl (sub_skip rfl (sub_refl _)))))) k
  ·intro k
   refine rd_skip rfl rfl ?_
   refine rd_skip rfl rfl ?_
   refine rd_skip rfl rfl ?_
   refine rd_op (v := vb true) (ov_pick rfl rfl rfl rfl) ?_
   exact rd_weak (sub_cons rfl (sub_skip rfl (sub_skip rfl (sub_skip rfl (sub_skip rfl (sub_refl _)))))) k
 refine rd_op (ov_move rfl) ?_
 refine rd_cut (d := 16) (v := vb (((decide ((x0.length : Int) = 0)) || (decide (16 < (x0.length : Int)))) || (!(lexer_isLetter (ix x0 0))))) ?_ ?_
 ·intro S Q r
  simp only [ac46_G2, List.cons_append, List.nil_append, List.append_assoc]
  cases hb102 : ((decide ((x0.length : Int) = 0)) || (decide (16 < (x0.length : Int))))
  ·intro k
   have hb102' := hb102
   try simp only [qa1, qa2, qa3, qa4, qa5, qa6, qa7, qa8, qa9, qaA, qaB, qaC, qaD] at hb102'
   refine rd_yes rfl rfl (ov_move rfl) ?_
   refine rd_yes rfl rfl (ov_indexS rfl rfl (str_idx Try.underlying9 (by first | omega | (have hk := tck (by assumption) (by assumption); omega) | (have hk := rtck (by assumption) (by assumption); omega) | (have hk := eck (by assumption) (by assumption) (by assumption); omega) | (have hk := tv (by assumption) (by assumption); omega) | (have hk := rtv (by assumption) (by assumption); omega)) (by first | omega | (have hk := tck (by assumption) (by assumption); omega) | (have hk := rtck (by assumption) (by assumption); omega) | (have hk := eck (by assumption) (by assumption) (by assumption); omega) | (have hk := tv (by assumption) (by assumption); omega) | (have hk := rtv (by assumption) (by assumption); omega)))) ?_
   have f103 := f71_ok (x0 := (ix x0 0))  
   refine rd_ycall rfl rfl (cv_fn rfl rfl (clL_cons rfl clL_nil) f103) ?_
   refine rd_yes rfl rfl (ov_not rfl) ?_
   refine rd_op (v := vb (!(lexer_isLetter (ix x0 0)))) (ov_pick rfl rfl rfl rfl) ?_
   exact rd_weak (sub_cons rfl (sub_skip rfl (sub_skip rfl (sub_skip rfl (sub_skip rfl (sub_skip rfl (sub_refl _))))))) k
  ·intro k
   refine rd_skip rfl rfl ?_
   refine rd_skip rfl rfl ?_
   refine rd_skip rfl rfl ?_
   refine rd_skip rfl rfl ?_
   refine rd_op (v := vb true) (ov_pick rfl rfl rfl rfl) ?_
   exact rd_weak (sub_cons rfl (sub_skip rfl (sub_skip rfl (sub_skip rfl (sub_skip rfl (sub_skip rfl (sub_refl _))))))) k
 refine rd_nil ?_
 refine pn_seq ?_
 refine rc_cond rfl (fun hc104 => ?_) (fun hc104 => ?_)
 ·replace hres := (ite_t hc104).symm.trans hres
  have hc104' := hc104
  try simp only [qa1, qa2, qa3, qa4, qa5, qa6, qa7, qa8, qa9, qaA, qaB, qaC, qaD] at hc104'
  refine rc_seq ?_
  refine rc_region ?_
  refine rd_op (v := vb false) (ov_move rfl) ?_
  refine rd_nil ?_
  refine pn_seq ?_
  subst hres
  exact rc_retV (.tmp rfl .nil) (deep_closed rfl) rfl
 ·replace hres := (ite_f hc104).symm.trans hres
  have hc104' := hc104
  try simp only [qa1, qa2, qa3, qa4, qa5, qa6, qa7, qa8, qa9, qaA, qaB, qaC, qaD] at hc104'
  refine rc_skip ?_
  refine pn_seq ?_
  refine rc_seq ?_
  refine rc_region ?_
  refine rd_op (ov_move rfl) ?_
  obtain ⟨y105, hw105, hres⟩ := let_ex hres
  have f105 := f72_ok (x0 := x0) tfn73 (by first | assumption | omega | (have := rv (by assumption) (by assumption); omega))
  rw [hw105] at f105
  refine rd_call (cv_fn rfl rfl (clL_cons rfl (clL_cons rfl clL_nil)) f105) ?_
  refine rd_op (ov_move rfl) ?_
  refine rd_op (ov_bi rfl (str_len Try.underlying9)) ?_
  refine rd_op (ov_bin rfl rfl i_eql) ?_
  refine rd_op (ov_move rfl) ?_
  refine rd_nil ?_
  refine pn_seq ?_
  subst hres
  exact rc_retV (.tmp rfl .nil) (deep_closed rfl) rfl

/-- patchbay/env.at[patchbay/api.Header] -/
def RF89 (res : api_Header) (r : PV) : Prop := api_Header.t.R res r
theorem f89_ok {x0 : List api_Header} {x1 : Int} {v0 : PV} (r0 : (tSl api_Header.t).R x0 v0) : ∃ r, FnR Try.prog 89 [v0, vi x1] r ∧ api_Header.t.R (env_at_api_Header x0 x1) r := by
 obtain ⟨res, hres⟩ : ∃ res, env_at_api_Header x0 x1 = res := ⟨_, rfl⟩
 suffices H : RC Try.prog ac89 [] (QR Try.prog [(4, some (2, true))] (RF89 res)) (argE 0 [v0, vi x1]) ⟨0, []⟩ by
  rw [hres]
  exact fnE text89 (by simp) H
 unfold env_at_api_Header at hres
 unfold ac89
 refine rc_seq ?_
 refine rc_region ?_
 refine rd_allocO (x := .agg [vs [], nilS]) (Mem.nil ⟨0, []⟩) rfl rfl (fun i101 w101 h101 M101 => ?_)
 refine rd_nil ?_
 refine pn_seq ?_
 refine rc_seq ?_
 refine rc_region ?_
 refine rd_op (ov_allocv (x := .agg [vs [], nilS]) rfl rfl) ?_
 refine rd_nil ?_
 refine pn_seq ?_
 refine rc_seq ?_
 refine rc_seq ?_
 refine rc_region ?_
 refine rd_op (ov_move rfl) ?_
 refine rd_op (ov_bin rfl rfl i_lss) ?_
 refine rd_op (ov_move rfl) ?_
 refine rd_cut (d := 13) (v := vb ((decide (x1 < 0)) || (decide ((x0.length : Int) ≤ x1)))) ?_ ?_
 ·intro S Q r
  simp only [ac89_G1, List.cons_append, List.nil_append, List.append_assoc]
  cases hb103 : (decide (x1 < 0))
  ·intro k
   have hb103' := hb103
   try simp only [qa1, qa2, qa3, qa4, qa5, qa6, qa7, qa8, qa9, qaA, qaB, qaC, qaD] at hb103'
   refine rd_yes rfl rfl (ov_move rfl) ?_
   refine rd_yes rfl rfl (ov_move rfl) ?_
   refine rd_yes rfl rfl (ov_bi rfl (sl_len r0 Try.underlying22 _)) ?_
   refine rd_yes rfl rfl (ov_bin rfl rfl i_geq) ?_
   refine rd_op (v := vb (decide ((x0.length : Int) ≤ x1))) (ov_pick rfl rfl rfl rfl) ?_
   exact rd_weak (sub_cons rfl (sub_skip rfl (sub_skip rfl (sub_skip rfl (sub_skip rfl (sub_skip rfl (sub_refl _))))))) k
  ·intro k
   refine rd_skip rfl rfl ?_
   refine rd_skip rfl rfl ?_
   refine rd_skip rfl rfl ?_
   refine rd_skip rfl rfl ?_
   refine rd_op (v := vb true) (ov_pick rfl rfl rfl rfl) ?_
   exact rd_weak (sub_cons rfl (sub_skip rfl (sub_skip rfl (sub_skip rfl (sub_skip rfl (sub_skip rfl (sub_refl _))))))) k
 refine rd_nil ?_
 refine pn_seq ?_
 refine rc_cond rfl (fun hc104 => ?_) (fun hc104 => ?_)
 ·replace hres := (ite_t hc104).symm.trans hres
  have hc104' := hc104
  try simp only [qa1, qa2, qa3, qa4, qa5, qa6, qa7, qa8, qa9, qaA, qaB, qaC, qaD] at hc104'
  refine rc_seq ?_
  refine rc_region ?_
  refine rd_op (ov_load rfl rfl rfl) ?_
  refine rd_storeO (k := 0) (v := .agg [vs [], nilS]) M101 rfl rfl rfl rfl (fun h105 M105 => ?_)
  replace M105 : Mem h105 [⟨.op i101 w101 0, 89, 2, [.agg [vs [], nilS]]⟩] := M105
  refine rd_nil ?_
  refine pn_seq ?_
  subst hres
  exact rc_retV (.cell rfl (load_whole (k := 0) M105 rfl rfl) .nil) (deep_closed (TR.clo api_Header.t (show api_Header.t.R ({ Name := ([] : List UInt8), Fields := ([] : List api_Field) } : api_Header) (.agg [vs [], nilS]) from ⟨nilS, rfl, sl_nil⟩))) (show api_Header.t.R ({ Name := ([] : List UInt8), Fields := ([] : List api_Field) } : api_Header) (.agg [vs [], nilS]) from ⟨nilS, rfl, sl_nil⟩)
 ·replace hres := (ite_f hc104).symm.trans hres
  have hc104' := hc104
  try simp only [qa1, qa2, qa3, qa4, qa5, qa6, qa7, qa8, qa9, qaA, qaB, qaC, qaD] at hc104'
  refine rc_skip ?_
  refine pn_seq ?_
  refine rc_seq ?_
  refine rc_region ?_
  refine rd_op (ov_move rfl) ?_
  refine rd_op (ov_move rfl) ?_
  obtain ⟨v106, e106, r106⟩ := sl_idx (i := x1) r0 (by first | omega | (have hk := tck (by assumption) (by assumption); omega) | (have hk := rtck (by assumption) (by assumption); omega) | (have hk := eck (by assumption) (by assumption) (by assumption); omega) | (have hk := tv (by assumption) (by assumption); omega) | (have hk := rtv (by assumption) (by assumption); omega)) (by first | omega | (have hk := tck (by assumption) (by assumption); omega) | (have hk := rtck (by assumption) (by assumption); omega) | (have hk := eck (by assumption) (by assumption) (by assumption); omega) | (have hk := tv (by assumption) (by assumption); omega) | (have hk := rtv (by assumption) (by assumption); omega))
  refine rd_op (ov_iaddr rfl rfl e106) ?_
  refine rd_op (ov_load rfl (TR.cnt api_Header.t r106) (TR.agg api_Header.t r106)) ?_
  refine rd_storeO (k := 0) (v := v106) M101 rfl rfl rfl (TR.cnt api_Header.t r106) (fun h107 M107 => ?_)
  replace M107 : Mem h107 [⟨.op i101 w101 0, 89, 2, [v106]⟩] := M107
  refine rd_nil ?_
  refine pn_seq ?_
  subst hres
  exact rc_retV (.cell rfl (load_whole (k := 0) M107 rfl (TR.agg api_Header.t r106)) .nil) (deep_closed (TR.clo api_Header.t r106)) r106

/-- patchbay/env.fields -/
def RF78 (res : (List api_Field)) (r : PV) : Prop := (tSl api_Field.t).R res r
theorem f78_ok {x0 : api_Program} {x1 : Int} {v0 : PV} (r0 : api_Program.t.R x0 v0) : ∃ r, FnR Try.prog 78 [v0, vi x1] r ∧ (tSl api_Field.t).R (env_fields x0 x1) r := by
 obtain ⟨res, hres⟩ : ∃ res, env_fields x0 x1 = res := ⟨_, rfl⟩
 suffices H : RC Try.prog ac78 [] (QR Try.prog [(4, none)] (RF78 res)) (argE 0 [v0, vi x1]) ⟨0, []⟩ by
  rw [hres]
  exact fnE text78 (by simp) H
 unfold env_fields at hres
 unfold ac78
 refine rc_seq ?_
 refine rc_region ?_
 refine rd_op (ov_box rfl (TR.cnt api_Program.t r0)) ?_
 refine rd_op (v := nilS) (ov_move rfl) ?_
 refine rd_nil ?_
 refine pn_seq ?_
 refine rc_seq ?_
 refine rc_seq ?_
 refine rc_region ?_
 refine rd_op (ov_move rfl) ?_
 refine rd_op (ov_bin rfl rfl i_eql) ?_
 refine rd_nil ?_
 refine pn_seq ?_
 refine rc_cond rfl (fun hc101 => ?_) (fun hc101 => ?_)
 ·replace hres := (ite_t hc101).symm.trans hres
  have hc101' := hc101
  try simp only [qa1, qa2, qa3, qa4, qa5, qa6, qa7, qa8, qa9, qaA, qaB, qaC, qaD] at hc101'
  refine rc_seq ?_
  refine rc_region ?_
  obtain ⟨v102, e102, r102⟩ := api_Program.g_Metadata r0
  refine rd_op (ov_faddr rfl e102) ?_
  refine rd_op (ov_load rfl (TR.cnt (tSl api_Field.t) r102) (TR.agg (tSl api_Field.t) r102)) ?_
  refine rd_op (ov_move rfl) ?_
  refine rd_nil ?_
  refine pn_seq ?_
  subst hres
  exact rc_retV (.tmp rfl .nil) (deep_closed (TR.clo (tSl api_Field.t) r102)) r102
 ·replace hres := (ite_f hc101).symm.trans hres
  have hc101' := hc101
  try simp only [qa1, qa2, qa3, qa4, qa5, qa6, qa7, qa8, qa9, qaA, qaB, qaC, qaD] at hc101'
  refine rc_skip ?_
  refine pn_seq ?_
  refine rc_seq ?_
  refine rc_region ?_
  obtain ⟨v103, e103, r103⟩ := api_Program.g_Headers r0
  refine rd_op (ov_faddr rfl e103) ?_
  refine rd_op (ov_load rfl (TR.cnt (tSl api_Header.t) r103) (TR.agg (tSl api_Header.t) r103)) ?_
  refine rd_op (ov_move rfl) ?_
  obtain ⟨y104, hw104, hres⟩ := let_ex hres
  obtain ⟨v105, f104, r105⟩ := f89_ok (x1 := x1) r103 
  rw [hw104] at r105
  refine rd_call (cv_fn rfl rfl (clL_cons (TR.clo (tSl api_Header.t) r103) (clL_cons rfl clL_nil)) f104) ?_
  obtain ⟨v106, e106, r106⟩ := api_Header.g_Fields r105
  refine rd_op (ov_field rfl e106) ?_
  refine rd_op (ov_move rfl) ?_
  refine rd_nil ?_
  refine pn_seq ?_
  subst hres
  exact rc_retV (.tmp rfl .nil) (deep_closed (TR.clo (tSl api_Field.t) r106)) r106

/-- patchbay/env.at[patchbay/api.Field] -/
def RF77 (res : api_Field) (r : PV) : Prop := api_Field.t.R res r
theorem f77_ok {x0 : List api_Field} {x1 : Int} {v0 : PV} (r0 : (tSl api_Field.t).R x0 v0) : ∃ r, FnR Try.prog 77 [v0, vi x1] r ∧ api_Field.t.R (env_at_api_Field x0 x1) r := by
 obtain ⟨res, hres⟩ : ∃ res, env_at_api_Field x0 x1 = res := ⟨_, rfl⟩
 suffices H : RC Try.prog ac77 [] (QR Try.prog [(4, some (2, true))] (RF77 res)) (argE 0 [v0, vi x1]) ⟨0, []⟩ by
  rw [hres]
  exact fnE text77 (by simp) H
 unfold env_at_api_Field at hres
 unfold ac77
 refine rc_seq ?_
 refine rc_region ?_
 refine rd_allocO (x := .agg [vs [], vi 0]) (Mem.nil ⟨0, []⟩) rfl rfl (fun i101 w101 h101 M101 => ?_)
 refine rd_nil ?_
 refine pn_seq ?_
 refine rc_seq ?_
 refine rc_region ?_
 refine rd_op (ov_allocv (x := .agg [vs [], vi 0]) rfl rfl) ?_
 refine rd_nil ?_
 refine pn_seq ?_
 refine rc_seq ?_
 refine rc_seq ?_
 refine rc_region ?_
 refine rd_op (ov_move rfl) ?_
 refine rd_op (ov_bin rfl rfl i_lss) ?_
 refine rd_op (ov_move rfl) ?_
 refine rd_cut (d := 13) (v := vb ((decide (x1 < 0)) || (decide ((x0.length : Int) ≤ x1)))) ?_ ?_
 ·intro S Q r
  simp only [ac77_G1, List.cons_append, List.nil_append, List.append_assoc]
  cases hb103 : (decide (x1 < 0))
  ·intro k
   have hb103' := hb103
   try simp only [qa1, qa2, qa3, qa4, qa5, qa6, qa7, qa8, qa9, qaA, qaB, qaC, qaD] at hb103'
   refine rd_yes rfl rfl (ov_move rfl) ?_
   refine rd_yes rfl rfl (ov_move rfl) ?_
   refine rd_yes rfl rfl (ov_bi rfl (sl_len r0 Try.underlying23 _)) ?_
   refine rd_yes rfl rfl (ov_bin rfl rfl i_geq) ?_
   refine rd_op (v := vb (decide ((x0.length : Int) ≤ x1))) (ov_pick rfl rfl rfl rfl) ?_
   exact rd_weak (sub_cons rfl (sub_skip rfl (sub_skip rfl (sub_skip rfl (sub_skip rfl (sub_skip rfl (sub_refl _))))))) k
  ·intro k
   refine rd_skip rfl rfl ?_
   refine rd_skip rfl rfl ?_
   refine rd_skip rfl rfl ?_
   refine rd_skip rfl rfl ?_
   refine rd_op (v := vb true) (ov_pick rfl rfl rfl rfl) ?_
   exact rd_weak (sub_cons rfl (sub_skip rfl (sub_skip rfl (sub_skip rfl (sub_skip rfl (sub_skip rfl (sub_refl _))))))) k
 refine rd_nil ?_
 refine pn_seq ?_
 refine rc_cond rfl (fun hc104 => ?_) (fun hc104 => ?_)
 ·replace hres := (ite_t hc104).symm.trans hres
  have hc104' := hc104
  try simp only [qa1, qa2, qa3, qa4, qa5, qa6, qa7, qa8, qa9, qaA, qaB, qaC, qaD] at hc104'
  refine rc_seq ?_
  refine rc_region ?_
  refine rd_op (ov_load rfl rfl rfl) ?_
  refine rd_storeO (k := 0) (v := .agg [vs [], vi 0]) M101 rfl rfl rfl rfl (fun h105 M105 => ?_)
  replace M105 : Mem h105 [⟨.op i101 w101 0, 65, 2, [.agg [vs [], vi 0]]⟩] := M105
  refine rd_nil ?_
  refine pn_seq ?_
  subst hres
  exact rc_retV (.cell rfl (load_whole (k := 0) M105 rfl rfl) .nil) (deep_closed (TR.clo api_Field.t (show api_Field.t.R ({ Name := ([] : List UInt8), Width := 0 } : api_Field) (.agg [vs [], vi 0]) from rfl))) (show api_Field.t.R ({ Name := ([] : List UInt8), Width := 0 } : api_Field) (.agg [vs [], vi 0]) from rfl)
 ·replace hres := (ite_f hc104).symm.trans hres
  have hc104' := hc104
  try simp only [qa1, qa2, qa3, qa4, qa5, qa6, qa7, qa8, qa9, qaA, qaB, qaC, qaD] at hc104'
  refine rc_skip ?_
  refine pn_seq ?_
  refine rc_seq ?_
  refine rc_region ?_
  refine rd_op (ov_move rfl) ?_
  refine rd_op (ov_move rfl) ?_
  obtain ⟨v106, e106, r106⟩ := sl_idx (i := x1) r0 (by first | omega | (have hk := tck (by assumption) (by assumption); omega) | (have hk := rtck (by assumption) (by assumption); omega) | (have hk := eck (by assumption) (by assumption) (by assumption); omega) | (have hk := tv (by assumption) (by assumption); omega) | (have hk := rtv (by assumption) (by assumption); omega)) (by first | omega | (have hk := tck (by assumption) (by assumption); omega) | (have hk := rtck (by assumption) (by assumption); omega) | (have hk := eck (by assumption) (by assumption) (by assumption); omega) | (have hk := tv (by assumption) (by assumption); omega) | (have hk := rtv (by assumption) (by assumption); omega))
  refine rd_op (ov_iaddr rfl rfl e106) ?_
  refine rd_op (ov_load rfl (TR.cnt api_Field.t r106) (TR.agg api_Field.t r106)) ?_
  refine rd_storeO (k := 0) (v := v106) M101 rfl rfl rfl (TR.cnt api_Field.t r106) (fun h107 M107 => ?_)
  replace M107 : Mem h107 [⟨.op i101 w101 0, 65, 2, [v106]⟩] := M107
  refine rd_nil ?_
  refine pn_seq ?_
  subst hres
  exact rc_retV (.cell rfl (load_whole (k := 0) M107 rfl (TR.agg api_Field.t r106)) .nil) (deep_closed (TR.clo api_Field.t r106)) r106

/-- patchbay/bitvec.valid -/
def RF80 (res : Bool) (r : PV) : Prop := r = vb res
theorem bitvec_valid_L1_ok {S : List Fr} {res : Bool} {x0 : List Int} {v0 : PV} (r0 : (tSl tI).R x0 v0) {K0 : Unit → Bool}
  (hK0 : K0 () = res → PX Try.prog 0 S (QR Try.prog [(2, none)] (RF80 res)) [] ⟨0, []⟩) :
  ∀ (m : Nat) (x7_ : Int) (hm1 : m = Int.toNat ((x0.length : Int) - x7_)) (hlo1 : 0 ≤ x7_), bitvec_valid_L1 x0 K0 m x7_ = res → RC Try.prog (.loop ac80_L1) S (QR Try.prog [(2, none)] (RF80 res)) [(7, vi x7_), (6, vi (x0.length : Int)), (5, v0)] ⟨0, []⟩ := by
 intro m
 induction m with
 | zero =>
  intro x7_ hm1 hlo1 hres
  rw [bitvec_valid_L1] at hres
  refine rc_loop ?_
  unfold ac80_L1
  refine rc_seq ?_
  refine rc_region ?_
  refine rd_op (ov_bin rfl rfl i_lss) ?_
  refine rd_nil ?_
  refine pn_seq ?_
  refine rc_seq ?_
  refine rc_cond rfl (fun hc101 => ?_) (fun hc101 => ?_)
  ·exfalso
   try simp only [qa1, qa2, qa3, qa4, qa5, qa6, qa7, qa8, qa9, qaA, qaB, qaC, qaD] at hc101
   omega
  ·have hend := hres
   have hc101' := hc101
   try simp only [qa1, qa2, qa3, qa4, qa5, qa6, qa7, qa8, qa9, qaA, qaB, qaC, qaD] at hc101'
   refine rc_exit ?_
   refine px_seq ?_
   refine px_again ?_
   exact px_weak ((sub_nil _)) (hK0  hres)
 | succ m ih =>
  intro x7_ hm1 hlo1 hres
  rw [bitvec_valid_L1] at hres
  refine rc_loop ?_
  unfold ac80_L1
  refine rc_seq ?_
  refine rc_region ?_
  refine rd_op (ov_bin rfl rfl i_lss) ?_
  refine rd_nil ?_
  refine pn_seq ?_
  refine rc_seq ?_
  refine rc_cond rfl (fun hc102 => ?_) (fun hc102 => ?_)
  ·have hgo := hres
   have hc102' := hc102
   try simp only [qa1, qa2, qa3, qa4, qa5, qa6, qa7, qa8, qa9, qaA, qaB, qaC, qaD] at hc102'
   refine rc_skip ?_
   refine pn_seq ?_
   refine rc_seq ?_
   refine rc_block ?_
   refine rc_seq ?_
   refine rc_region ?_
   refine rd_op (ov_iaddr rfl rfl (slI r0 (by first | omega | (have hk := tck (by assumption) (by assumption); omega) | (have hk := rtck (by assumption) (by assumption); omega) | (have hk := eck (by assumption) (by assumption) (by assumption); omega) | (have hk := tv (by assumption) (by assumption); omega) | (have hk := rtv (by assumption) (by assumption); omega)) (by first | omega | (have hk := tck (by assumption) (by assumption); omega) | (have hk := rtck (by assumption) (by assumption); omega) | (have hk := eck (by assumption) (by assumption) (by assumption); omega) | (have hk := tv (by assumption) (by assumption); omega) | (have hk := rtv (by assumption) (by assumption); omega)))) ?_
   refine rd_op (ov_load rfl rfl rfl) ?_
   refine rd_op (ov_move rfl) ?_
   refine rd_nil ?_
   refine pn_seq ?_
   refine rc_seq ?_
   refine rc_region ?_
   refine rd_op (ov_move rfl) ?_
   refine rd_op (ov_bin rfl rfl i_lss) ?_
   refine rd_op (ov_move rfl) ?_
   refine rd_cut (d := 16) (v := vb ((decide ((ix x0 x7_) < 1)) || (decide (32 < (ix x0 x7_))))) ?_ ?_
   ·intro S Q r
    simp only [ac80_G1, List.cons_append, List.nil_append, List.append_assoc]
    cases hb103 : (decide ((ix x0 x7_) < 1))
    ·intro k
     have hb103' := hb103
     try simp only [qa1, qa2, qa3, qa4, qa5, qa6, qa7, qa8, qa9, qaA, qaB, qaC, qaD] at hb103'
     refine rd_yes rfl rfl (ov_move rfl) ?_
     refine rd_yes rfl rfl (ov_bin rfl rfl i_gtr) ?_
     refine rd_op (v := vb (decide (32 < (ix x0 x7_)))) (ov_pick rfl rfl rfl rfl) ?_
     exact rd_weak (sub_cons rfl (sub_skip rfl (sub_skip rfl (sub_skip rfl (sub_refl _))))) k
    ·intro k
     refine rd_skip rfl rfl ?_
     refine rd_skip rfl rfl ?_
     refine rd_op (v := vb true) (ov_pick rfl rfl rfl rfl) ?_
     exact rd_weak (sub_cons rfl (sub_skip rfl (sub_skip rfl (sub_skip rfl (sub_refl _))))) k
   refine rd_nil ?_
   refine pn_seq ?_
   refine rc_cond rfl (fun hc104 => ?_) (fun hc104 => ?_)
   ·replace hres := (ite_t hc104).symm.trans hres
    have hc104' := hc104
    try simp only [qa1, qa2, qa3, qa4, qa5, qa6, qa7, qa8, qa9, qaA, qaB, qaC, qaD] at hc104'
    refine rc_seq ?_
    refine rc_region ?_
    refine rd_op (v := vb false) (ov_move rfl) ?_
    refine rd_nil ?_
    refine pn_seq ?_
    subst hres
    exact rc_retV (.tmp rfl .nil) (deep_closed rfl) rfl
   ·replace hres := (ite_f hc104).symm.trans hres
    have hc104' := hc104
    try simp only [qa1, qa2, qa3, qa4, qa5, qa6, qa7, qa8, qa9, qaA, qaB, qaC, qaD] at hc104'
    refine rc_skip ?_
    refine pn_blk ?_
    refine pn_seq ?_
    refine rc_region ?_
    refine rd_op (ov_bin rfl rfl i_add) ?_
    refine rd_op (ov_move rfl) ?_
    refine rd_nil ?_
    refine pn_again ?_
    have hbd := sl_bound r0
    have hinc : wr (x7_ + 1) = x7_ + 1 := wr_of (by omega) (by omega)
    rw [hinc]
    refine rc_weak ?_ (ih (x7_ + 1)  (by omega) (by omega) hres)
    exact ((sub_cons rfl (sub_cons rfl (sub_cons rfl (sub_nil _)))))
  ·exfalso
   try simp only [qa1, qa2, qa3, qa4, qa5, qa6, qa7, qa8, qa9, qaA, qaB, qaC, qaD] at hc102
   omega

theorem f80_ok {x0 : List Int} {v0 : PV} (r0 : (tSl tI).R x0 v0) : FnR Try.prog 80 [v0] (vb (bitvec_valid x0)) := by
 obtain ⟨res, hres⟩ : ∃ res, bitvec_valid x0 = res := ⟨_, rfl⟩
 suffices H : RC Try.prog ac80 [] (QR Try.prog [(2, none)] (RF80 res)) (argE 0 [v0]) ⟨0, []⟩ by
  obtain ⟨r, h1, h2⟩ := fnE text80 (by simp) H
  rw [hres]
  have h2 : r = vb res := h2
  rw [← h2]; exact h1
 unfold bitvec_valid at hres
 unfold ac80
 refine rc_seq ?_
 refine rc_region ?_
 refine rd_op (v := vb false) (ov_move rfl) ?_
 refine rd_nil ?_
 refine pn_seq ?_
 refine rc_seq ?_
 refine rc_seq ?_
 refine rc_region ?_
 refine rd_op (ov_move rfl) ?_
 refine rd_op (ov_bi rfl (sl_len r0 Try.underlying29 _)) ?_
 refine rd_op (v := vi 0) (ov_move rfl) ?_
 refine rd_nil ?_
 refine pn_seq ?_
 refine rc_block ?_
 refine rc_weak ?_ (bitvec_valid_L1_ok (x0 := x0) (v0 := v0)  (r0 := r0) ?_ (Int.toNat ((x0.length : Int) - 0)) 0 rfl (by omega) hres)
 ·exact ((sub_cons rfl (sub_cons rfl (sub_cons rfl (sub_nil _)))))
 ·intro  hres
  refine px_blk ?_
  refine pn_seq ?_
  refine rc_seq ?_
  refine rc_region ?_
  refine rd_op (v := vb true) (ov_move rfl) ?_
  refine rd_nil ?_
  refine pn_seq ?_
  subst hres
  exact rc_retV (.tmp rfl .nil) (deep_closed rfl) rfl

/-- patchbay/bitvec.Mask -/
def RF58 (res : (BitVec 32)) (r : PV) : Prop := r = vu32 res
theorem f58_ok {x0 : Int} : FnR Try.prog 58 [vi x0] (vu32 (bitvec_Mask x0)) := by
 obtain ⟨res, hres⟩ : ∃ res, bitvec_Mask x0 = res := ⟨_, rfl⟩
 suffices H : RC Try.prog ac58 [] (QR Try.prog [(2, none)] (RF58 res)) (argE 0 [vi x0]) ⟨0, []⟩ by
  obtain ⟨r, h1, h2⟩ := fnE text58 (by simp) H
  rw [hres]
  have h2 : r = vu32 res := h2
  rw [← h2]; exact h1
 unfold bitvec_Mask at hres
 unfold ac58
 refine rc_seq ?_
 refine rc_region ?_
 refine rd_op (v := vu32 0#32) (ov_move rfl) ?_
 refine rd_nil ?_
 refine pn_seq ?_
 refine rc_seq ?_
 refine rc_seq ?_
 refine rc_region ?_
 refine rd_op (ov_move rfl) ?_
 refine rd_op (v := .fs true [vi x0]) (ov_bslice rfl (all_cons rfl all_nil)) ?_
 have r101 : (tSl tI).R ([x0] : List Int) (.fs true [vi x0]) := sl_fs ⟨rfl, trivial⟩ (by simp)
 obtain ⟨y102, hw102, hres⟩ := let_ex hres
 have f102 := f80_ok  r101 
 rw [hw102] at f102
 refine rd_call (cv_fn rfl rfl (clL_cons (TR.clo (tSl tI) r101) clL_nil) f102) ?_
 refine rd_op (ov_not rfl) ?_
 refine rd_nil ?_
 refine pn_seq ?_
 refine rc_cond rfl (fun hc103 => ?_) (fun hc103 => ?_)
 ·replace hres := (ite_t hc103).symm.trans hres
  have hc103' := hc103
  try simp only [qa1, qa2, qa3, qa4, qa5, qa6, qa7, qa8, qa9, qaA, qaB, qaC, qaD] at hc103'
  refine rc_seq ?_
  refine rc_region ?_
  refine rd_op (v := vu32 0#32) (ov_move rfl) ?_
  refine rd_nil ?_
  refine pn_seq ?_
  subst hres
  exact rc_retV (.tmp rfl .nil) (deep_closed rfl) rfl
 ·replace hres := (ite_f hc103).symm.trans hres
  have hc103' := hc103
  try simp only [qa1, qa2, qa3, qa4, qa5, qa6, qa7, qa8, qa9, qaA, qaB, qaC, qaD] at hc103'
  refine rc_skip ?_
  refine pn_seq ?_
  refine rc_seq ?_
  refine rc_region ?_
  refine rd_op (ov_move rfl) ?_
  refine rd_op (ov_bin rfl rfl i_sub) ?_
  refine rd_op (ov_bin (a := vu32 4294967295#32) (b := vi (wr (32 - x0))) rfl rfl (w_shr (by first | omega | exact mask_sh (by assumption) (by assumption)))) ?_
  refine rd_op (ov_move rfl) ?_
  refine rd_nil ?_
  refine pn_seq ?_
  subst hres
  exact rc_retV (.tmp rfl .nil) (deep_closed rfl) rfl

/-- patchbay/env.Width -/
def RF54 (res : Int) (r : PV) : Prop := r = vi res
theorem f54_ok {x0 : api_Program} {x1 : api_FieldRef} {v0 : PV} {v1 : PV} (r0 : api_Program.t.R x0 v0) (r1 : api_FieldRef.t.R x1 v1) : FnR Try.prog 54 [v0, v1] (vi (env_Width x0 x1)) := by
 obtain ⟨res, hres⟩ : ∃ res, env_Width x0 x1 = res := ⟨_, rfl⟩
 suffices H : RC Try.prog ac54 [] (QR Try.prog [(4, none)] (RF54 res)) (argE 0 [v0, v1]) ⟨0, []⟩ by
  obtain ⟨r, h1, h2⟩ := fnE text54 (by simp) H
  rw [hres]
  have h2 : r = vi res := h2
  rw [← h2]; exact h1
 unfold env_Width at hres
 unfold ac54
 refine rc_seq ?_
 refine rc_region ?_
 refine rd_op (ov_box rfl (TR.cnt api_Program.t r0)) ?_
 refine rd_op (ov_box rfl (TR.cnt api_FieldRef.t r1)) ?_
 refine rd_op (v := vi 0) (ov_move rfl) ?_
 refine rd_nil ?_
 refine pn_seq ?_
 refine rc_seq ?_
 refine rc_region ?_
 refine rd_op (ov_load rfl (TR.cnt api_Program.t r0) (TR.agg api_Program.t r0)) ?_
 refine rd_op (ov_faddr rfl (api_FieldRef.g_Header r1)) ?_
 refine rd_op (ov_load rfl rfl rfl) ?_
 obtain ⟨y101, hw101, hres⟩ := let_ex hres
 obtain ⟨v102, f101, r102⟩ := f78_ok (x1 := x1.Header) r0 
 rw [hw101] at r102
 refine rd_call (cv_fn rfl rfl (clL_cons (TR.clo api_Program.t r0) (clL_cons rfl clL_nil)) f101) ?_
 refine rd_op (ov_faddr rfl (api_FieldRef.g_Field r1)) ?_
 refine rd_op (ov_load rfl rfl rfl) ?_
 obtain ⟨y103, hw103, hres⟩ := let_ex hres
 obtain ⟨v104, f103, r104⟩ := f77_ok (x1 := x1.Field) r102 
 rw [hw103] at r104
 refine rd_call (cv_fn rfl rfl (clL_cons (TR.clo (tSl api_Field.t) r102) (clL_cons rfl clL_nil)) f103) ?_
 refine rd_op (ov_field rfl (api_Field.g_Width r104)) ?_
 refine rd_op (ov_move rfl) ?_
 refine rd_nil ?_
 refine pn_seq ?_
 refine rc_seq ?_
 refine rc_seq ?_
 refine rc_region ?_
 refine rd_op (ov_move rfl) ?_
 obtain ⟨y105, hw105, hres⟩ := let_ex hres
 have f105 := f58_ok (x0 := y103.Width)  
 rw [hw105] at f105
 refine rd_call (cv_fn rfl rfl (clL_cons rfl clL_nil) f105) ?_
 refine rd_op (ov_bin (a := vu32 y105) (b := vu32 0#32) rfl rfl w_eql) ?_
 refine rd_nil ?_
 refine pn_seq ?_
 refine rc_cond rfl (fun hc106 => ?_) (fun hc106 => ?_)
 ·replace hres := (ite_t hc106).symm.trans hres
  have hc106' := hc106
  try simp only [qa1, qa2, qa3, qa4, qa5, qa6, qa7, qa8, qa9, qaA, qaB, qaC, qaD] at hc106'
  refine rc_seq ?_
  refine rc_region ?_
  refine rd_op (v := vi 0) (ov_move rfl) ?_
  refine rd_nil ?_
  refine pn_seq ?_
  subst hres
  exact rc_retV (.tmp rfl .nil) (deep_closed rfl) rfl
 ·replace hres := (ite_f hc106).symm.trans hres
  have hc106' := hc106
  try simp only [qa1, qa2, qa3, qa4, qa5, qa6, qa7, qa8, qa9, qaA, qaB, qaC, qaD] at hc106'
  refine rc_skip ?_
  refine pn_seq ?_
  refine rc_seq ?_
  refine rc_region ?_
  refine rd_op (ov_move rfl) ?_
  refine rd_op (ov_move rfl) ?_
  refine rd_nil ?_
  refine pn_seq ?_
  subst hres
  exact rc_retV (.tmp rfl .nil) (deep_closed rfl) rfl

/-- patchbay/table.checkKeys -/
def RF47 (res : Int × Int) (r : PV) : Prop := r = .tup [vi res.1, vi res.2]
theorem table_checkKeys_L1_ok {S : List Fr} {res : Int × Int} {x0 : api_Program} {x1 : api_Table} {v0 : PV} {v101 : PV} (r0 : api_Program.t.R x0 v0) (r101 : (tSl api_TableKey.t).R x1.Keys v101) {K0 : Int → Int → (Int × Int)}
  (hK0 : ∀ (x6_ : Int) (x7_ : Int) (h : Heap) (M0 : Mem h []), K0 x6_ x7_ = res → PX Try.prog 0 S (QR Try.prog [(4, none), (5, none)] (RF47 res)) [(6, vi x6_), (7, vi x7_)] h) :
  ∀ (m : Nat) (x6_ : Int) (x7_ : Int) (x14_ : Int) (hm1 : m = Int.toNat ((x1.Keys.length : Int) - x14_)) (hlo1 : 0 ≤ x14_) (h : Heap) (M0 : Mem h []), table_checkKeys_L1 x0 x1 K0 m x6_ x7_ x14_ = res → RC Try.prog (.loop ac47_L1) S (QR Try.prog [(4, none), (5, none)] (RF47 res)) [(14, vi x14_), (13, vi (x1.Keys.length : Int)), (12, v101), (7, vi x7_), (6, vi x6_), (2, .fp v0)] h := by
 intro m
 induction m with
 | zero =>
  intro x6_ x7_ x14_ hm1 hlo1 h M0 hres
  rw [table_checkKeys_L1] at hres
  refine rc_loop ?_
  unfold ac47_L1
  refine rc_seq ?_
  refine rc_region ?_
  refine rd_op (ov_bin rfl rfl i_lss) ?_
  refine rd_nil ?_
  refine pn_seq ?_
  refine rc_seq ?_
  refine rc_cond rfl (fun hc102 => ?_) (fun hc102 => ?_)
  ·exfalso
   try simp only [qa1, qa2, qa3, qa4, qa5, qa6, qa7, qa8, qa9, qaA, qaB, qaC, qaD] at hc102
   omega
  ·have hend := hres
   have hc102' := hc102
   try simp only [qa1, qa2, qa3, qa4, qa5, qa6, qa7, qa8, qa9, qaA, qaB, qaC, qaD] at hc102'
   refine rc_exit ?_
   refine px_seq ?_
   refine px_again ?_
   exact px_weak ((sub_cons rfl (sub_cons rfl (sub_nil _)))) (hK0 x6_ x7_ _ (Mem.sub M0 .slnil) hres)
 | succ m ih =>
  intro x6_ x7_ x14_ hm1 hlo1 h M0 hres
  rw [table_checkKeys_L1] at hres
  refine rc_loop ?_
  unfold ac47_L1
  refine rc_seq ?_
  refine rc_region ?_
  refine rd_op (ov_bin rfl rfl i_lss) ?_
  refine rd_nil ?_
  refine pn_seq ?_
  refine rc_seq ?_
  refine rc_cond rfl (fun hc103 => ?_) (fun hc103 => ?_)
  ·have hgo := hres
   have hc103' := hc103
   try simp only [qa1, qa2, qa3, qa4, qa5, qa6, qa7, qa8, qa9, qaA, qaB, qaC, qaD] at hc103'
   refine rc_skip ?_
   refine pn_seq ?_
   refine rc_seq ?_
   refine rc_block ?_
   refine rc_seq ?_
   refine rc_region ?_
   refine rd_op (ov_move rfl) ?_
   obtain ⟨v104, e104, r104⟩ := sl_idx (i := x14_) r101 (by first | omega | (have hk := tck (by assumption) (by assumption); omega) | (have hk := rtck (by assumption) (by assumption); omega) | (have hk := eck (by assumption) (by assumption) (by assumption); omega) | (have hk := tv (by assumption) (by assumption); omega) | (have hk := rtv (by assumption) (by assumption); omega)) (by first | omega | (have hk := tck (by assumption) (by assumption); omega) | (have hk := rtck (by assumption) (by assumption); omega) | (have hk := eck (by assumption) (by assumption) (by assumption); omega) | (have hk := tv (by assumption) (by assumption); omega) | (have hk := rtv (by assumption) (by assumption); omega))
   refine rd_op (ov_iaddr rfl rfl e104) ?_
   refine rd_op (ov_load rfl (TR.cnt api_TableKey.t r104) (TR.agg api_TableKey.t r104)) ?_
   refine rd_allocO (x := .agg [vi 0, vi 0, vi 0]) M0 rfl rfl (fun i105 w105 h105 M105 => ?_)
   refine rd_op (ov_move rfl) ?_
   refine rd_storeO (k := 0) (v := v104) M105 rfl rfl rfl (TR.cnt api_TableKey.t r104) (fun h107 M107 => ?_)
   replace M107 : Mem h107 [⟨.op i105 w105 0, 62, 3, [v104]⟩] := M107
   refine rd_nil ?_
   refine pn_seq ?_
   refine rc_seq ?_
   refine rc_region ?_
   refine rd_op (ov_load rfl (TR.cnt api_Program.t r0) (TR.agg api_Program.t r0)) ?_
   refine rd_op (ov_faddrO rfl) ?_
   obtain ⟨v108, e108, r108⟩ := api_TableKey.g_Field r104
   refine rd_op (ov_loadf (k := 0) M107 rfl rfl e108) ?_
   obtain ⟨y109, hw109, hres⟩ := let_ex hres
   have f109 := f54_ok  r0 r108 
   rw [hw109] at f109
   refine rd_call (cv_fn rfl rfl (clL_cons (TR.clo api_Program.t r0) (clL_cons (TR.clo api_FieldRef.t r108) clL_nil)) f109) ?_
   refine rd_op (ov_move rfl) ?_
   refine rd_nil ?_
   refine pn_seq ?_
   refine rc_seq ?_
   refine rc_seq ?_
   refine rc_region ?_
   refine rd_op (ov_move rfl) ?_
   refine rd_op (ov_bin rfl rfl i_eql) ?_
   refine rd_nil ?_
   refine pn_seq ?_
   refine rc_cond rfl (fun hc110 => ?_) (fun hc110 => ?_)
   ·replace hres := (ite_t hc110).symm.trans hres
    have hc110' := hc110
    try simp only [qa1, qa2, qa3, qa4, qa5, qa6, qa7, qa8, qa9, qaA, qaB, qaC, qaD] at hc110'
    refine rc_seq ?_
    refine rc_region ?_
    refine rd_op (ov_move rfl) ?_
    refine rd_op (ov_move rfl) ?_
    refine rd_op (v := vi 8) (ov_move rfl) ?_
    refine rd_nil ?_
    refine pn_seq ?_
    subst hres
    exact rc_retV (.tmp rfl (.tmp rfl .nil)) (deep_closed (show closed (.tup _) = true from (clL_cons rfl (clL_cons rfl clL_nil)))) rfl
   ·replace hres := (ite_f hc110).symm.trans hres
    have hc110' := hc110
    try simp only [qa1, qa2, qa3, qa4, qa5, qa6, qa7, qa8, qa9, qaA, qaB, qaC, qaD] at hc110'
    refine rc_skip ?_
    refine pn_seq ?_
    refine rc_seq ?_
    refine rc_seq ?_
    refine rc_region ?_
    refine rd_op (ov_faddrO rfl) ?_
    refine rd_op (ov_loadf (k := 0) M107 rfl rfl (api_TableKey.g_Kind r104)) ?_
    refine rd_nil ?_
    refine pn_seq ?_
    refine rc_block ?_
    refine rc_seq ?_
    refine rc_region ?_
    refine rd_op (ov_bin rfl rfl i_eql) ?_
    refine rd_op (ov_move rfl) ?_
    refine rd_nil ?_
    refine pn_seq ?_
    refine rc_cond rfl (fun hc111 => ?_) (fun hc111 => ?_)
    ·replace hres := (ite_t hc111).symm.trans hres
     have hc111' := hc111
     try simp only [qa1, qa2, qa3, qa4, qa5, qa6, qa7, qa8, qa9, qaA, qaB, qaC, qaD] at hc111'
     refine rc_region ?_
     refine rd_op (ov_move rfl) ?_
     refine rd_op (ov_bin rfl rfl i_add) ?_
     refine rd_op (ov_move rfl) ?_
     refine rd_nil ?_
     refine pn_blk ?_
     refine pn_seq ?_
     refine rc_region ?_
     refine rd_op (ov_move rfl) ?_
     refine rd_op (ov_move rfl) ?_
     refine rd_op (ov_bin rfl rfl i_add) ?_
     refine rd_op (ov_move rfl) ?_
     refine rd_nil ?_
     refine pn_blk ?_
     refine pn_seq ?_
     refine rc_region ?_
     refine rd_op (ov_bin rfl rfl i_add) ?_
     refine rd_op (ov_move rfl) ?_
     refine rd_nil ?_
     refine pn_again ?_
     have hbd := sl_bound r101
     have hinc : wr (x14_ + 1) = x14_ + 1 := wr_of (by omega) (by omega)
     rw [hinc]
     refine rc_weak ?_ (ih (wr (x6_ + 1)) (wr (x7_ + y109)) (x14_ + 1)  (by omega) (by omega) _ (Mem.sub M107 (.cons _ .slnil)) hres)
     exact ((sub_cons rfl (sub_cons rfl (sub_cons rfl (sub_cons rfl (sub_cons rfl (sub_cons rfl (sub_nil _))))))))
    ·replace hres := (ite_f hc111).symm.trans hres
     have hc111' := hc111
     try simp only [qa1, qa2, qa3, qa4, qa5, qa6, qa7, qa8, qa9, qaA, qaB, qaC, qaD] at hc111'
     refine rc_seq ?_
     refine rc_seq ?_
     refine rc_region ?_
     refine rd_op (ov_bin rfl rfl i_eql) ?_
     refine rd_op (ov_move rfl) ?_
     refine rd_nil ?_
     refine pn_seq ?_
     obtain ⟨k113, hk113, hres⟩ := let_ex hres
     refine rc_join (F := fun b S Q => ∀ (x33_113 : Bool) (hj113 : Heap) (Mj113 : Mem hj113 []), k113 x33_113 = res → RC Try.prog b S Q [(33, vb x33_113), (14, vi x14_), (13, vi (x1.Keys.length : Int)), (12, v101), (10, vi y109), (8, vi x14_), (7, vi x7_), (6, vi x6_), (2, .fp v0)] hj113) ?_ ?_
     ·intro x33_113 hj113 Mj113 hres
      rw [← hk113] at hres
      refine rc_cond rfl (fun hc114 => ?_) (fun hc114 => ?_)
      ·replace hres := (ite_t hc114).symm.trans hres
       have hc114' := hc114
       try simp only [qa1, qa2, qa3, qa4, qa5, qa6, qa7, qa8, qa9, qaA, qaB, qaC, qaD] at hc114'
       refine rc_skip ?_
       refine pn_blk ?_
       refine pn_seq ?_
       refine rc_region ?_
       refine rd_op (ov_move rfl) ?_
       refine rd_op (ov_move rfl) ?_
       refine rd_op (ov_bin rfl rfl i_add) ?_
       refine rd_op (ov_move rfl) ?_
       refine rd_nil ?_
       refine pn_blk ?_
       refine pn_seq ?_
       refine rc_region ?_
       refine rd_op (ov_bin rfl rfl i_add) ?_
       refine rd_op (ov_move rfl) ?_
       refine rd_nil ?_
       refine pn_again ?_
       have hbd := sl_bound r101
       have hinc : wr (x14_ + 1) = x14_ + 1 := wr_of (by omega) (by omega)
       rw [hinc]
       refine rc_weak ?_ (ih x6_ (wr (x7_ + y109)) (x14_ + 1)  (by omega) (by omega) _ (Mem.sub Mj113 .slnil) hres)
       exact ((sub_cons rfl (sub_cons rfl (sub_cons rfl (sub_cons rfl (sub_cons rfl (sub_cons rfl (sub_nil _))))))))
      ·replace hres := (ite_f hc114).symm.trans hres
       have hc114' := hc114
       try simp only [qa1, qa2, qa3, qa4, qa5, qa6, qa7, qa8, qa9, qaA, qaB, qaC, qaD] at hc114'
       refine rc_seq ?_
       refine rc_region ?_
       refine rd_op (ov_move rfl) ?_
       refine rd_op (ov_move rfl) ?_
       refine rd_op (v := vi 11) (ov_move rfl) ?_
       refine rd_nil ?_
       refine pn_seq ?_
       subst hres
       exact rc_retV (.tmp rfl (.tmp rfl .nil)) (deep_closed (show closed (.tup _) = true from (clL_cons rfl (clL_cons rfl clL_nil)))) rfl
     ·intro J
      refine rc_cond rfl (fun hc115 => ?_) (fun hc115 => ?_)
      ·replace hres := (ite_t hc115).symm.trans hres
       have hc115' := hc115
       try simp only [qa1, qa2, qa3, qa4, qa5, qa6, qa7, qa8, qa9, qaA, qaB, qaC, qaD] at hc115'
       refine rc_skip ?_
       refine pn_seq (rc_weak ((sub_cons rfl (sub_cons rfl (sub_cons rfl (sub_cons rfl (sub_cons rfl (sub_cons rfl (sub_cons rfl (sub_cons rfl (sub_cons rfl (sub_nil _))))))))))) (J _ _ (Mem.sub M107 (.cons _ .slnil)) hres))
      ·replace hres := (ite_f hc115).symm.trans hres
       have hc115' := hc115
       try simp only [qa1, qa2, qa3, qa4, qa5, qa6, qa7, qa8, qa9, qaA, qaB, qaC, qaD] at hc115'
       refine rc_region ?_
       refine rd_op (ov_bin rfl rfl i_eql) ?_
       refine rd_op (ov_move rfl) ?_
       refine rd_nil ?_
       refine pn_seq (rc_weak ((sub_cons rfl (sub_cons rfl (sub_cons rfl (sub_cons rfl (sub_cons rfl (sub_cons rfl (sub_cons rfl (sub_cons rfl (sub_cons rfl (sub_nil _))))))))))) (J _ _ (Mem.sub M107 (.cons _ .slnil)) hres))
  ·exfalso
   try simp only [qa1, qa2, qa3, qa4, qa5, qa6, qa7, qa8, qa9, qaA, qaB, qaC, qaD] at hc103
   omega

theorem f47_ok {x0 : api_Program} {x1 : api_Table} {v0 : PV} {v1 : PV} (r0 : api_Program.t.R x0 v0) (r1 : api_Table.t.R x1 v1) : FnR Try.prog 47 [v0, v1] (.tup [vi ((table_checkKeys x0 x1).1), vi ((table_checkKeys x0 x1).2)]) := by
 obtain ⟨res, hres⟩ : ∃ res, table_checkKeys x0 x1 = res := ⟨_, rfl⟩
 suffices H : RC Try.prog ac47 [] (QR Try.prog [(4, none), (5, none)] (RF47 res)) (argE 0 [v0, v1]) ⟨0, []⟩ by
  obtain ⟨r, h1, h2⟩ := fnE text47 (by simp) H
  rw [hres]
  have h2 : r = .tup [vi res.1, vi res.2] := h2
  rw [← h2]; exact h1
 unfold table_checkKeys at hres
 unfold ac47
 refine rc_seq ?_
 refine rc_region ?_
 refine rd_op (ov_box rfl (TR.cnt api_Program.t r0)) ?_
 refine rd_op (ov_box rfl (TR.cnt api_Table.t r1)) ?_
 refine rd_op (v := vi 0) (ov_move rfl) ?_
 refine rd_op (v := vi 0) (ov_move rfl) ?_
 refine rd_nil ?_
 refine pn_seq ?_
 refine rc_seq ?_
 refine rc_region ?_
 refine rd_op (v := vi 0) (ov_move rfl) ?_
 refine rd_op (v := vi 0) (ov_move rfl) ?_
 refine rd_nil ?_
 refine pn_seq ?_
 refine rc_seq ?_
 refine rc_seq ?_
 refine rc_region ?_
 obtain ⟨v101, e101, r101⟩ := api_Table.g_Keys r1
 refine rd_op (ov_faddr rfl e101) ?_
 refine rd_op (ov_load rfl (TR.cnt (tSl api_TableKey.t) r101) (TR.agg (tSl api_TableKey.t) r101)) ?_
 refine rd_op (ov_bi rfl (sl_len r101 Try.underlying52 _)) ?_
 refine rd_op (v := vi 0) (ov_move rfl) ?_
 refine rd_nil ?_
 refine pn_seq ?_
 refine rc_block ?_
 refine rc_weak ?_ (table_checkKeys_L1_ok (x0 := x0) (x1 := x1) (v0 := v0) (v101 := v101)  (r0 := r0) (r101 := r101) ?_ (Int.toNat ((x1.Keys.length : Int) - 0)) 0 0 0 rfl (by omega) _ (Mem.sub (Mem.nil ⟨0, []⟩) .slnil) hres)
 ·exact ((sub_cons rfl (sub_cons rfl (sub_cons rfl (sub_cons rfl (sub_cons rfl (sub_cons rfl (sub_nil _))))))))
 ·intro x6_116 x7_116 h116 M116 hres
  refine px_blk ?_
  refine pn_seq ?_
  refine rc_seq ?_
  refine rc_seq ?_
  refine rc_region ?_
  refine rd_op (ov_move rfl) ?_
  refine rd_op (ov_bin rfl rfl i_gtr) ?_
  refine rd_nil ?_
  refine pn_seq ?_
  refine rc_cond rfl (fun hc117 => ?_) (fun hc117 => ?_)
  ·replace hres := (ite_t hc117).symm.trans hres
   have hc117' := hc117
   try simp only [qa1, qa2, qa3, qa4, qa5, qa6, qa7, qa8, qa9, qaA, qaB, qaC, qaD] at hc117'
   refine rc_seq ?_
   refine rc_region ?_
   refine rd_op (v := vi (-2)) (ov_move rfl) ?_
   refine rd_op (v := vi 7) (ov_move rfl) ?_
   refine rd_nil ?_
   refine pn_seq ?_
   subst hres
   exact rc_retV (.tmp rfl (.tmp rfl .nil)) (deep_closed (show closed (.tup _) = true from (clL_cons rfl (clL_cons rfl clL_nil)))) rfl
  ·replace hres := (ite_f hc117).symm.trans hres
   have hc117' := hc117
   try simp only [qa1, qa2, qa3, qa4, qa5, qa6, qa7, qa8, qa9, qaA, qaB, qaC, qaD] at hc117'
   refine rc_skip ?_
   refine pn_seq ?_
   refine rc_seq ?_
   refine rc_seq ?_
   refine rc_region ?_
   refine rd_op (ov_move rfl) ?_
   refine rd_op (ov_bin rfl rfl i_gtr) ?_
   refine rd_nil ?_
   refine pn_seq ?_
   refine rc_cond rfl (fun hc118 => ?_) (fun hc118 => ?_)
   ·replace hres := (ite_t hc118).symm.trans hres
    have hc118' := hc118
    try simp only [qa1, qa2, qa3, qa4, qa5, qa6, qa7, qa8, qa9, qaA, qaB, qaC, qaD] at hc118'
    refine rc_seq ?_
    refine rc_region ?_
    refine rd_op (v := vi (-2)) (ov_move rfl) ?_
    refine rd_op (v := vi 10) (ov_move rfl) ?_
    refine rd_nil ?_
    refine pn_seq ?_
    subst hres
    exact rc_retV (.tmp rfl (.tmp rfl .nil)) (deep_closed (show closed (.tup _) = true from (clL_cons rfl (clL_cons rfl clL_nil)))) rfl
   ·replace hres := (ite_f hc118).symm.trans hres
    have hc118' := hc118
    try simp only [qa1, qa2, qa3, qa4, qa5, qa6, qa7, qa8, qa9, qaA, qaB, qaC, qaD] at hc118'
    refine rc_skip ?_
    refine pn_seq ?_
    refine rc_seq ?_
    refine rc_region ?_
    refine rd_op (v := vi 0) (ov_move rfl) ?_
    refine rd_op (v := vi 0) (ov_move rfl) ?_
    refine rd_nil ?_
    refine pn_seq ?_
    subst hres
    exact rc_retV (.tmp rfl (.tmp rfl .nil)) (deep_closed (show closed (.tup _) = true from (clL_cons rfl (clL_cons rfl clL_nil)))) rfl

/-- patchbay/bitvec.Fits -/
def RF83 (res : Bool) (r : PV) : Prop := r = vb res
theorem f83_ok {x0 : BitVec 32} {x1 : Int} : FnR Try.prog 83 [vu32 x0, vi x1] (vb (bitvec_Fits x0 x1)) := by
 obtain ⟨res, hres⟩ : ∃ res, bitvec_Fits x0 x1 = res := ⟨_, rfl⟩
 suffices H : RC Try.prog ac83 [] (QR Try.prog [(4, none)] (RF83 res)) (argE 0 [vu32 x0, vi x1]) ⟨0, []⟩ by
  obtain ⟨r, h1, h2⟩ := fnE text83 (by simp) H
  rw [hres]
  have h2 : r = vb res := h2
  rw [← h2]; exact h1
 unfold bitvec_Fits at hres
 unfold ac83
 refine rc_seq ?_
 refine rc_region ?_
 refine rd_op (v := vb false) (ov_move rfl) ?_
 refine rd_nil ?_
 refine pn_seq ?_
 refine rc_seq ?_
 refine rc_region ?_
 refine rd_op (ov_move rfl) ?_
 refine rd_op (v := .fs true [vi x1]) (ov_bslice rfl (all_cons rfl all_nil)) ?_
 have r101 : (tSl tI).R ([x1] : List Int) (.fs true [vi x1]) := sl_fs ⟨rfl, trivial⟩ (by simp)
 obtain ⟨y102, hw102, hres⟩ := let_ex hres
 have f102 := f80_ok  r101 
 rw [hw102] at f102
 refine rd_call (cv_fn rfl rfl (clL_cons (TR.clo (tSl tI) r101) clL_nil) f102) ?_
 refine rd_op (ov_move rfl) ?_
 refine rd_cut (d := 13) (v := vb (y102 && (decide (x0 ≤ (bitvec_Mask x1))))) ?_ ?_
 ·intro S Q r
  simp only [ac83_G1, List.cons_append, List.nil_append, List.append_assoc]
  cases hb103 : y102
  ·intro k
   refine rd_skip rfl rfl ?_
   refine rd_skip rfl rfl ?_
   refine rd_skip rfl rfl ?_
   refine rd_skip rfl rfl ?_
   refine rd_op (v := vb false) (ov_pick rfl rfl rfl rfl) ?_
   exact rd_weak (sub_cons rfl (sub_skip rfl (sub_skip rfl (sub_skip rfl (sub_skip rfl (sub_skip rfl (sub_refl _))))))) k
  ·intro k
   have hb103' := hb103
   try simp only [qa1, qa2, qa3, qa4, qa5, qa6, qa7, qa8, qa9, qaA, qaB, qaC, qaD] at hb103'
   refine rd_yes rfl rfl (ov_move rfl) ?_
   refine rd_yes rfl rfl (ov_move rfl) ?_
   have f104 := f58_ok (x0 := x1)  
   refine rd_ycall rfl rfl (cv_fn rfl rfl (clL_cons rfl clL_nil) f104) ?_
   refine rd_yes rfl rfl (ov_bin (a := vu32 x0) (b := vu32 (bitvec_Mask x1)) rfl rfl w_leq) ?_
   refine rd_op (v := vb (decide (x0 ≤ (bitvec_Mask x1)))) (ov_pick rfl rfl rfl rfl) ?_
   exact rd_weak (sub_cons rfl (sub_skip rfl (sub_skip rfl (sub_skip rfl (sub_skip rfl (sub_skip rfl (sub_refl _))))))) k
 refine rd_op (ov_move rfl) ?_
 refine rd_nil ?_
 refine pn_seq ?_
 subst hres
 exact rc_retV (.tmp rfl .nil) (deep_closed rfl) rfl

/-- patchbay/action.CheckCall -/
def RF64 (res : Int) (r : PV) : Prop := r = vi res
theorem action_CheckCall_L1_ok {S : List Fr} {res : Int} {x0 : api_Program} {x1 : api_ActionCall} {v106 : PV} {v109 : PV} (hc103 : ((decide (x1.Action < 0)) || (decide ((x0.Actions.length : Int) ≤ x1.Action))) = false) (r106 : (tSl api_Field.t).R ((ix x0.Actions x1.Action).Params) v106) (hc108 : (!decide ((x1.Args.length : Int) = (((ix x0.Actions x1.Action).Params).length : Int))) = false) (r109 : (tSl tU32).R x1.Args v109) {K0 : Unit → Int}
  (hK0 : K0 () = res → PX Try.prog 0 S (QR Try.prog [(4, none)] (RF64 res)) [] ⟨0, []⟩) :
  ∀ (m : Nat) (x35_ : Int) (hm1 : m = Int.toNat ((x1.Args.length : Int) - x35_)) (hlo1 : 0 ≤ x35_), action_CheckCall_L1 x0 x1 K0 m x35_ = res → RC Try.prog (.loop ac64_L1) S (QR Try.prog [(4, none)] (RF64 res)) [(35, vi x35_), (34, vi (x1.Args.length : Int)), (33, v109), (5, v106)] ⟨0, []⟩ := by
 have hc103' := hc103
 try simp only [qa1, qa2, qa3, qa4, qa5, qa6, qa7, qa8, qa9, qaA, qaB, qaC, qaD] at hc103'
 have hc108' := hc108
 try simp only [qa1, qa2, qa3, qa4, qa5, qa6, qa7, qa8, qa9, qaA, qaB, qaC, qaD] at hc108'
 intro m
 induction m with
 | zero =>
  intro x35_ hm1 hlo1 hres
  rw [action_CheckCall_L1] at hres
  refine rc_loop ?_
  unfold ac64_L1
  refine rc_seq ?_
  refine rc_region ?_
  refine rd_op (ov_bin rfl rfl i_lss) ?_
  refine rd_nil ?_
  refine pn_seq ?_
  refine rc_seq ?_
  refine rc_cond rfl (fun hc110 => ?_) (fun hc110 => ?_)
  ·exfalso
   try simp only [qa1, qa2, qa3, qa4, qa5, qa6, qa7, qa8, qa9, qaA, qaB, qaC, qaD] at hc110
   omega
  ·have hend := hres
   have hc110' := hc110
   try simp only [qa1, qa2, qa3, qa4, qa5, qa6, qa7, qa8, qa9, qaA, qaB, qaC, qaD] at hc110'
   refine rc_exit ?_
   refine px_seq ?_
   refine px_again ?_
   exact px_weak ((sub_nil _)) (hK0  hres)
 | succ m ih =>
  intro x35_ hm1 hlo1 hres
  rw [action_CheckCall_L1] at hres
  refine rc_loop ?_
  unfold ac64_L1
  refine rc_seq ?_
  refine rc_region ?_
  refine rd_op (ov_bin rfl rfl i_lss) ?_
  refine rd_nil ?_
  refine pn_seq ?_
  refine rc_seq ?_
  refine rc_cond rfl (fun hc111 => ?_) (fun hc111 => ?_)
  ·have hgo := hres
   have hc111' := hc111
   try simp only [qa1, qa2, qa3, qa4, qa5, qa6, qa7, qa8, qa9, qaA, qaB, qaC, qaD] at hc111'
   refine rc_skip ?_
   refine pn_seq ?_
   refine rc_seq ?_
   refine rc_block ?_
   refine rc_seq ?_
   refine rc_region ?_
   refine rd_op (ov_move rfl) ?_
   refine rd_op (ov_iaddr rfl rfl (slU32 r109 (by first | omega | (have hk := tck (by assumption) (by assumption); omega) | (have hk := rtck (by assumption) (by assumption); omega) | (have hk := eck (by assumption) (by assumption) (by assumption); omega) | (have hk := tv (by assumption) (by assumption); omega) | (have hk := rtv (by assumption) (by assumption); omega)) (by first | omega | (have hk := tck (by assumption) (by assumption); omega) | (have hk := rtck (by assumption) (by assumption); omega) | (have hk := eck (by assumption) (by assumption) (by assumption); omega) | (have hk := tv (by assumption) (by assumption); omega) | (have hk := rtv (by assumption) (by assumption); omega)))) ?_
   refine rd_op (ov_load rfl rfl rfl) ?_
   refine rd_op (ov_move rfl) ?_
   refine rd_op (ov_move rfl) ?_
   refine rd_nil ?_
   refine pn_seq ?_
   refine rc_seq ?_
   refine rc_region ?_
   refine rd_op (ov_move rfl) ?_
   refine rd_op (ov_move rfl) ?_
   refine rd_op (ov_move rfl) ?_
   obtain ⟨v112, e112, r112⟩ := sl_idx (i := x35_) r106 (by first | omega | (have hk := tck (by assumption) (by assumption); omega) | (have hk := rtck (by assumption) (by assumption); omega) | (have hk := eck (by assumption) (by assumption) (by assumption); omega) | (have hk := tv (by assumption) (by assumption); omega) | (have hk := rtv (by assumption) (by assumption); omega)) (by first | omega | (have hk := tck (by assumption) (by assumption); omega) | (have hk := rtck (by assumption) (by assumption); omega) | (have hk := eck (by assumption) (by assumption) (by assumption); omega) | (have hk := tv (by assumption) (by assumption); omega) | (have hk := rtv (by assumption) (by assumption); omega))
   refine rd_op (ov_iaddr rfl rfl e112) ?_
   refine rd_op (ov_faddr rfl (api_Field.g_Width r112)) ?_
   refine rd_op (ov_load rfl rfl rfl) ?_
   obtain ⟨y113, hw113, hres⟩ := let_ex hres
   have f113 := f83_ok (x0 := (ix x1.Args x35_)) (x1 := (ix ((ix x0.Actions x1.Action).Params) x35_).Width)  
   rw [hw113] at f113
   refine rd_call (cv_fn rfl rfl (clL_cons rfl (clL_cons rfl clL_nil)) f113) ?_
   refine rd_op (ov_not rfl) ?_
   refine rd_nil ?_
   refine pn_seq ?_
   refine rc_cond rfl (fun hc114 => ?_) (fun hc114 => ?_)
   ·replace hres := (ite_t hc114).symm.trans hres
    have hc114' := hc114
    try simp only [qa1, qa2, qa3, qa4, qa5, qa6, qa7, qa8, qa9, qaA, qaB, qaC, qaD] at hc114'
    refine rc_seq ?_
    refine rc_region ?_
    refine rd_op (v := vi 9) (ov_move rfl) ?_
    refine rd_nil ?_
    refine pn_seq ?_
    subst hres
    exact rc_retV (.tmp rfl .nil) (deep_closed rfl) rfl
   ·replace hres := (ite_f hc114).symm.trans hres
    have hc114' := hc114
    try simp only [qa1, qa2, qa3, qa4, qa5, qa6, qa7, qa8, qa9, qaA, qaB, qaC, qaD] at hc114'
    refine rc_skip ?_
    refine pn_blk ?_
    refine pn_seq ?_
    refine rc_region ?_
    refine rd_op (ov_bin rfl rfl i_add) ?_
    refine rd_op (ov_move rfl) ?_
    refine rd_nil ?_
    refine pn_again ?_
    have hbd := sl_bound r109
    have hinc : wr (x35_ + 1) = x35_ + 1 := wr_of (by omega) (by omega)
    rw [hinc]
    refine rc_weak ?_ (ih (x35_ + 1)  (by omega) (by omega) hres)
    exact ((sub_cons rfl (sub_cons rfl (sub_cons rfl (sub_cons rfl (sub_nil _))))))
  ·exfalso
   try simp only [qa1, qa2, qa3, qa4, qa5, qa6, qa7, qa8, qa9, qaA, qaB, qaC, qaD] at hc111
   omega

theorem f64_ok {x0 : api_Program} {x1 : api_ActionCall} {v0 : PV} {v1 : PV} (r0 : api_Program.t.R x0 v0) (r1 : api_ActionCall.t.R x1 v1) : FnR Try.prog 64 [v0, v1] (vi (action_CheckCall x0 x1)) := by
 obtain ⟨res, hres⟩ : ∃ res, action_CheckCall x0 x1 = res := ⟨_, rfl⟩
 suffices H : RC Try.prog ac64 [] (QR Try.prog [(4, none)] (RF64 res)) (argE 0 [v0, v1]) ⟨0, []⟩ by
  obtain ⟨r, h1, h2⟩ := fnE text64 (by simp) H
  rw [hres]
  have h2 : r = vi res := h2
  rw [← h2]; exact h1
 unfold action_CheckCall at hres
 unfold ac64
 refine rc_seq ?_
 refine rc_region ?_
 refine rd_op (ov_box rfl (TR.cnt api_Program.t r0)) ?_
 refine rd_op (ov_box rfl (TR.cnt api_ActionCall.t r1)) ?_
 refine rd_op (v := vi 0) (ov_move rfl) ?_
 refine rd_nil ?_
 refine pn_seq ?_
 refine rc_seq ?_
 refine rc_seq ?_
 refine rc_region ?_
 refine rd_op (ov_faddr rfl (api_ActionCall.g_Action r1)) ?_
 refine rd_op (ov_load rfl rfl rfl) ?_
 refine rd_op (ov_bin rfl rfl i_lss) ?_
 refine rd_op (ov_move rfl) ?_
 refine rd_cut (d := 18) (v := vb ((decide (x1.Action < 0)) || (decide ((x0.Actions.length : Int) ≤ x1.Action)))) ?_ ?_
 ·intro S Q r
  simp only [ac64_G1, List.cons_append, List.nil_append, List.append_assoc]
  cases hb101 : (decide (x1.Action < 0))
  ·intro k
   have hb101' := hb101
   try simp only [qa1, qa2, qa3, qa4, qa5, qa6, qa7, qa8, qa9, qaA, qaB, qaC, qaD] at hb101'
   refine rd_yes rfl rfl (ov_faddr rfl (api_ActionCall.g_Action r1)) ?_
   refine rd_yes rfl rfl (ov_load rfl rfl rfl) ?_
   obtain ⟨v102, e102, r102⟩ := api_Program.g_Actions r0
   refine rd_yes rfl rfl (ov_faddr rfl e102) ?_
   refine rd_yes rfl rfl (ov_load rfl (TR.cnt (tSl api_Action.t) r102) (TR.agg (tSl api_Action.t) r102)) ?_
   refine rd_yes rfl rfl (ov_bi rfl (sl_len r102 Try.underlying25 _)) ?_
   refine rd_yes rfl rfl (ov_bin rfl rfl i_geq) ?_
   refine rd_op (v := vb (decide ((x0.Actions.length : Int) ≤ x1.Action))) (ov_pick rfl rfl rfl rfl) ?_
   exact rd_weak (sub_cons rfl (sub_skip rfl (sub_skip rfl (sub_skip rfl (sub_skip rfl (sub_skip rfl (sub_skip rfl (sub_skip rfl (sub_refl _))))))))) k
  ·intro k
   refine rd_skip rfl rfl ?_
   refine rd_skip rfl rfl ?_
   refine rd_skip rfl rfl ?_
   refine rd_skip rfl rfl ?_
   refine rd_skip rfl rfl ?_
   refine rd_skip rfl rfl ?_
   refine rd_op (v := vb true) (ov_pick rfl rfl rfl rfl) ?_
   exact rd_weak (sub_cons rfl (sub_skip rfl (sub_skip rfl (sub_skip rfl (sub_skip rfl (sub_skip rfl (sub_skip rfl (sub_skip rfl (sub_refl _))))))))) k
 refine rd_nil ?_
 refine pn_seq ?_
 refine rc_cond rfl (fun hc103 => ?_) (fun hc103 => ?_)
 ·replace hres := (ite_t hc103).symm.trans hres
  have hc103' := hc103
  try simp only [qa1, qa2, qa3, qa4, qa5, qa6, qa7, qa8, qa9, qaA, qaB, qaC, qaD] at hc103'
  refine rc_seq ?_
  refine rc_region ?_
  refine rd_op (v := vi 8) (ov_move rfl) ?_
  refine rd_nil ?_
  refine pn_seq ?_
  subst hres
  exact rc_retV (.tmp rfl .nil) (deep_closed rfl) rfl
 ·replace hres := (ite_f hc103).symm.trans hres
  have hc103' := hc103
  try simp only [qa1, qa2, qa3, qa4, qa5, qa6, qa7, qa8, qa9, qaA, qaB, qaC, qaD] at hc103'
  refine rc_skip ?_
  refine pn_seq ?_
  refine rc_seq ?_
  refine rc_region ?_
  obtain ⟨v104, e104, r104⟩ := api_Program.g_Actions r0
  refine rd_op (ov_faddr rfl e104) ?_
  refine rd_op (ov_load rfl (TR.cnt (tSl api_Action.t) r104) (TR.agg (tSl api_Action.t) r104)) ?_
  refine rd_op (ov_faddr rfl (api_ActionCall.g_Action r1)) ?_
  refine rd_op (ov_load rfl rfl rfl) ?_
  obtain ⟨v105, e105, r105⟩ := sl_idx (i := x1.Action) r104 (by first | omega | (have hk := tck (by assumption) (by assumption); omega) | (have hk := rtck (by assumption) (by assumption); omega) | (have hk := eck (by assumption) (by assumption) (by assumption); omega) | (have hk := tv (by assumption) (by assumption); omega) | (have hk := rtv (by assumption) (by assumption); omega)) (by first | omega | (have hk := tck (by assumption) (by assumption); omega) | (have hk := rtck (by assumption) (by assumption); omega) | (have hk := eck (by assumption) (by assumption) (by assumption); omega) | (have hk := tv (by assumption) (by assumption); omega) | (have hk := rtv (by assumption) (by assumption); omega))
  refine rd_op (ov_iaddr rfl rfl e105) ?_
  obtain ⟨v106, e106, r106⟩ := api_Action.g_Params r105
  refine rd_op (ov_faddr rfl e106) ?_
  refine rd_op (ov_load rfl (TR.cnt (tSl api_Field.t) r106) (TR.agg (tSl api_Field.t) r106)) ?_
  refine rd_op (ov_move rfl) ?_
  refine rd_nil ?_
  refine pn_seq ?_
  refine rc_seq ?_
  refine rc_seq ?_
  refine rc_region ?_
  obtain ⟨v107, e107, r107⟩ := api_ActionCall.g_Args r1
  refine rd_op (ov_faddr rfl e107) ?_
  refine rd_op (ov_load rfl (TR.cnt (tSl tU32) r107) (TR.agg (tSl tU32) r107)) ?_
  refine rd_op (ov_bi rfl (sl_len r107 Try.underlying44 _)) ?_
  refine rd_op (ov_move rfl) ?_
  refine rd_op (ov_bi rfl (sl_len r106 Try.underlying23 _)) ?_
  refine rd_op (ov_bin rfl rfl i_neq) ?_
  refine rd_nil ?_
  refine pn_seq ?_
  refine rc_cond rfl (fun hc108 => ?_) (fun hc108 => ?_)
  ·replace hres := (ite_t hc108).symm.trans hres
   have hc108' := hc108
   try simp only [qa1, qa2, qa3, qa4, qa5, qa6, qa7, qa8, qa9, qaA, qaB, qaC, qaD] at hc108'
   refine rc_seq ?_
   refine rc_region ?_
   refine rd_op (v := vi 2) (ov_move rfl) ?_
   refine rd_nil ?_
   refine pn_seq ?_
   subst hres
   exact rc_retV (.tmp rfl .nil) (deep_closed rfl) rfl
  ·replace hres := (ite_f hc108).symm.trans hres
   have hc108' := hc108
   try simp only [qa1, qa2, qa3, qa4, qa5, qa6, qa7, qa8, qa9, qaA, qaB, qaC, qaD] at hc108'
   refine rc_skip ?_
   refine pn_seq ?_
   refine rc_seq ?_
   refine rc_seq ?_
   refine rc_region ?_
   obtain ⟨v109, e109, r109⟩ := api_ActionCall.g_Args r1
   refine rd_op (ov_faddr rfl e109) ?_
   refine rd_op (ov_load rfl (TR.cnt (tSl tU32) r109) (TR.agg (tSl tU32) r109)) ?_
   refine rd_op (ov_bi rfl (sl_len r109 Try.underlying44 _)) ?_
   refine rd_op (v := vi 0) (ov_move rfl) ?_
   refine rd_nil ?_
   refine pn_seq ?_
   refine rc_block ?_
   refine rc_weak ?_ (action_CheckCall_L1_ok (x0 := x0) (x1 := x1) (v106 := v106) (v109 := v109)  (hc103 := hc103) (r106 := r106) (hc108 := hc108) (r109 := r109) ?_ (Int.toNat ((x1.Args.length : Int) - 0)) 0 rfl (by omega) hres)
   ·exact ((sub_cons rfl (sub_cons rfl (sub_cons rfl (sub_cons rfl (sub_nil _))))))
   ·intro  hres
    refine px_blk ?_
    refine pn_seq ?_
    refine rc_seq ?_
    refine rc_region ?_
    refine rd_op (v := vi 0) (ov_move rfl) ?_
    refine rd_nil ?_
    refine pn_seq ?_
    subst hres
    exact rc_retV (.tmp rfl .nil) (deep_closed rfl) rfl

/-- patchbay/table.checkActions -/
def RF48 (res : Int) (r : PV) : Prop := r = vi res
theorem table_checkActions_L1_ok {S : List Fr} {res : Int} {x0 : api_Program} {x1 : api_Table} {v0 : PV} {v1 : PV} {v103 : PV} {i101 : Nat} {w101 : Nat} (r0 : api_Program.t.R x0 v0) (r103 : (tSl tI).R x1.Actions v103) {K0 : (List (Int × Bool)) → Int}
  (hK0 : ∀ (zE102 : List (Int × Bool)) (esE102 : List PV) (qE102 : All2 (tKV tB).R zE102 esE102) (h : Heap) (M0 : Mem h [⟨.om i101 w101, 118, 2, esE102⟩]), K0 zE102 = res → PX Try.prog 0 S (QR Try.prog [(4, none)] (RF48 res)) [(2, .fp v0), (3, .fp v1), (5, .om i101 w101)] h) :
  ∀ (m : Nat) (x12_ : Int) (zE102 : List (Int × Bool)) (esE102 : List PV) (qE102 : All2 (tKV tB).R zE102 esE102) (hm1 : m = Int.toNat ((x1.Actions.length : Int) - x12_)) (hlo1 : 0 ≤ x12_) (h : Heap) (M0 : Mem h [⟨.om i101 w101, 118, 2, esE102⟩]), table_checkActions_L1 x0 x1 K0 m x12_ zE102 = res → RC Try.prog (.loop ac48_L1) S (QR Try.prog [(4, none)] (RF48 res)) [(12, vi x12_), (11, vi (x1.Actions.length : Int)), (10, v103), (5, .om i101 w101), (3, .fp v1), (2, .fp v0)] h := by
 intro m
 induction m with
 | zero =>
  intro x12_ zE102 esE102 qE102 hm1 hlo1 h M0 hres
  rw [table_checkActions_L1] at hres
  refine rc_loop ?_
  unfold ac48_L1
  refine rc_seq ?_
  refine rc_region ?_
  refine rd_op (ov_bin rfl rfl i_lss) ?_
  refine rd_nil ?_
  refine pn_seq ?_
  refine rc_seq ?_
  refine rc_cond rfl (fun hc104 => ?_) (fun hc104 => ?_)
  ·exfalso
   try simp only [qa1, qa2, qa3, qa4, qa5, qa6, qa7, qa8, qa9, qaA, qaB, qaC, qaD] at hc104
   omega
  ·have hend := hres
   have hc104' := hc104
   try simp only [qa1, qa2, qa3, qa4, qa5, qa6, qa7, qa8, qa9, qaA, qaB, qaC, qaD] at hc104'
   refine rc_exit ?_
   refine px_seq ?_
   refine px_again ?_
   exact px_weak ((sub_cons rfl (sub_cons rfl (sub_cons rfl (sub_nil _))))) (hK0 zE102 esE102 qE102 _ (Mem.sub M0 (.cons_cons _ .slnil)) hres)
 | succ m ih =>
  intro x12_ zE102 esE102 qE102 hm1 hlo1 h M0 hres
  rw [table_checkActions_L1] at hres
  refine rc_loop ?_
  unfold ac48_L1
  refine rc_seq ?_
  refine rc_region ?_
  refine rd_op (ov_bin rfl rfl i_lss) ?_
  refine rd_nil ?_
  refine pn_seq ?_
  refine rc_seq ?_
  refine rc_cond rfl (fun hc105 => ?_) (fun hc105 => ?_)
  ·have hgo := hres
   have hc105' := hc105
   try simp only [qa1, qa2, qa3, qa4, qa5, qa6, qa7, qa8, qa9, qaA, qaB, qaC, qaD] at hc105'
   refine rc_skip ?_
   refine pn_seq ?_
   refine rc_seq ?_
   refine rc_block ?_
   refine rc_seq ?_
   refine rc_region ?_
   refine rd_op (ov_iaddr rfl rfl (slI r103 (by first | omega | (have hk := tck (by assumption) (by assumption); omega) | (have hk := rtck (by assumption) (by assumption); omega) | (have hk := eck (by assumption) (by assumption) (by assumption); omega) | (have hk := tv (by assumption) (by assumption); omega) | (have hk := rtv (by assumption) (by assumption); omega)) (by first | omega | (have hk := tck (by assumption) (by assumption); omega) | (have hk := rtck (by assumption) (by assumption); omega) | (have hk := eck (by assumption) (by assumption) (by assumption); omega) | (have hk := tv (by assumption) (by assumption); omega) | (have hk := rtv (by assumption) (by assumption); omega)))) ?_
   refine rd_op (ov_load rfl rfl rfl) ?_
   refine rd_op (ov_move rfl) ?_
   refine rd_nil ?_
   refine pn_seq ?_
   refine rc_seq ?_
   refine rc_seq ?_
   refine rc_region ?_
   refine rd_op (ov_move rfl) ?_
   refine rd_op (ov_bin rfl rfl i_lss) ?_
   refine rd_op (ov_move rfl) ?_
   refine rd_cut (d := 24) (v := vb ((decide ((ix x1.Actions x12_) < 0)) || (decide ((x0.Actions.length : Int) ≤ (ix x1.Actions x12_))))) ?_ ?_
   ·intro S Q r
    simp only [ac48_G1, List.cons_append, List.nil_append, List.append_assoc]
    cases hb106 : (decide ((ix x1.Actions x12_) < 0))
    ·intro k
     have hb106' := hb106
     try simp only [qa1, qa2, qa3, qa4, qa5, qa6, qa7, qa8, qa9, qaA, qaB, qaC, qaD] at hb106'
     refine rd_yes rfl rfl (ov_move rfl) ?_
     obtain ⟨v107, e107, r107⟩ := api_Program.g_Actions r0
     refine rd_yes rfl rfl (ov_faddr rfl e107) ?_
     refine rd_yes rfl rfl (ov_load rfl (TR.cnt (tSl api_Action.t) r107) (TR.agg (tSl api_Action.t) r107)) ?_
     refine rd_yes rfl rfl (ov_bi rfl (sl_len r107 Try.underlying25 _)) ?_
     refine rd_yes rfl rfl (ov_bin rfl rfl i_geq) ?_
     refine rd_op (v := vb (decide ((x0.Actions.length : Int) ≤ (ix x1.Actions x12_)))) (ov_pick rfl rfl rfl rfl) ?_
     exact rd_weak (sub_cons rfl (sub_skip rfl (sub_skip rfl (sub_skip rfl (sub_skip rfl (sub_skip rfl (sub_skip rfl (sub_refl _)))))))) k
    ·intro k
     refine rd_skip rfl rfl ?_
     refine rd_skip rfl rfl ?_
     refine rd_skip rfl rfl ?_
     refine rd_skip rfl rfl ?_
     refine rd_skip rfl rfl ?_
     refine rd_op (v := vb true) (ov_pick rfl rfl rfl rfl) ?_
     exact rd_weak (sub_cons rfl (sub_skip rfl (sub_skip rfl (sub_skip rfl (sub_skip rfl (sub_skip rfl (sub_skip rfl (sub_refl _)))))))) k
   refine rd_nil ?_
   refine pn_seq ?_
   refine rc_cond rfl (fun hc108 => ?_) (fun hc108 => ?_)
   ·replace hres := (ite_t hc108).symm.trans hres
    have hc108' := hc108
    try simp only [qa1, qa2, qa3, qa4, qa5, qa6, qa7, qa8, qa9, qaA, qaB, qaC, qaD] at hc108'
    refine rc_seq ?_
    refine rc_region ?_
    refine rd_op (v := vi 8) (ov_move rfl) ?_
    refine rd_nil ?_
    refine pn_seq ?_
    subst hres
    exact rc_retV (.tmp rfl .nil) (deep_closed rfl) rfl
   ·replace hres := (ite_f hc108).symm.trans hres
    have hc108' := hc108
    try simp only [qa1, qa2, qa3, qa4, qa5, qa6, qa7, qa8, qa9, qaA, qaB, qaC, qaD] at hc108'
    refine rc_skip ?_
    refine pn_seq ?_
    refine rc_seq ?_
    refine rc_seq ?_
    refine rc_region ?_
    refine rd_op (ov_move rfl) ?_
    refine rd_op (ov_move rfl) ?_
    refine rd_lookO (k := 0) (t := tB) (zero := false) M0 rfl rfl rfl qE102 rfl (fun v109 r109 => ?_)
    have r109 : v109 = vb ((mget zE102 (ix x1.Actions x12_)).getD false) := r109; subst r109
    refine rd_nil ?_
    refine pn_seq ?_
    refine rc_cond rfl (fun hc110 => ?_) (fun hc110 => ?_)
    ·replace hres := (ite_t hc110).symm.trans hres
     have hc110' := hc110
     try simp only [qa1, qa2, qa3, qa4, qa5, qa6, qa7, qa8, qa9, qaA, qaB, qaC, qaD] at hc110'
     refine rc_seq ?_
     refine rc_region ?_
     refine rd_op (v := vi 7) (ov_move rfl) ?_
     refine rd_nil ?_
     refine pn_seq ?_
     subst hres
     exact rc_retV (.tmp rfl .nil) (deep_closed rfl) rfl
    ·replace hres := (ite_f hc110).symm.trans hres
     have hc110' := hc110
     try simp only [qa1, qa2, qa3, qa4, qa5, qa6, qa7, qa8, qa9, qaA, qaB, qaC, qaD] at hc110'
     refine rc_skip ?_
     refine pn_seq ?_
     refine rc_region ?_
     refine rd_op (ov_move rfl) ?_
     refine rd_op (ov_move rfl) ?_
     refine rd_updO (k := 0) (t := tB) (v := vb true) M0 rfl rfl rfl rfl qE102 (show tB.R true (vb true) from rfl) (fun h111 es111 M111 q111 => ?_)
     refine rd_nil ?_
     refine pn_blk ?_
     refine pn_seq ?_
     refine rc_region ?_
     refine rd_op (ov_bin rfl rfl i_add) ?_
     refine rd_op (ov_move rfl) ?_
     refine rd_nil ?_
     refine pn_again ?_
     have hbd := sl_bound r103
     have hinc : wr (x12_ + 1) = x12_ + 1 := wr_of (by omega) (by omega)
     rw [hinc]
     refine rc_weak ?_ (ih (x12_ + 1) (mput zE102 (ix x1.Actions x12_) true) es111 q111 (by omega) (by omega) _ (Mem.sub M111 (.cons_cons _ .slnil)) hres)
     exact ((sub_cons rfl (sub_cons rfl (sub_cons rfl (sub_cons rfl (sub_cons rfl (sub_cons rfl (sub_nil _))))))))
  ·exfalso
   try simp only [qa1, qa2, qa3, qa4, qa5, qa6, qa7, qa8, qa9, qaA, qaB, qaC, qaD] at hc105
   omega

theorem f48_ok {x0 : api_Program} {x1 : api_Table} {v0 : PV} {v1 : PV} (r0 : api_Program.t.R x0 v0) (r1 : api_Table.t.R x1 v1) : FnR Try.prog 48 [v0, v1] (vi (table_checkActions x0 x1)) := by
 obtain ⟨res, hres⟩ : ∃ res, table_checkActions x0 x1 = res := ⟨_, rfl⟩
 suffices H : RC Try.prog ac48 [] (QR Try.prog [(4, none)] (RF48 res)) (argE 0 [v0, v1]) ⟨0, []⟩ by
  obtain ⟨r, h1, h2⟩ := fnE text48 (by simp) H
  rw [hres]
  have h2 : r = vi res := h2
  rw [← h2]; exact h1
 unfold table_checkActions at hres
 unfold ac48
 refine rc_seq ?_
 refine rc_region ?_
 refine rd_op (ov_box rfl (TR.cnt api_Program.t r0)) ?_
 refine rd_op (ov_box rfl (TR.cnt api_Table.t r1)) ?_
 refine rd_op (v := vi 0) (ov_move rfl) ?_
 refine rd_nil ?_
 refine pn_seq ?_
 refine rc_seq ?_
 refine rc_region ?_
 refine rd_mapO (Mem.nil ⟨0, []⟩) (fun i101 w101 h101 M101 => ?_)
 have q101 : All2 (tKV tB).R ([] : List (Int × Bool)) [] := trivial
 refine rd_op (ov_move rfl) ?_
 refine rd_nil ?_
 refine pn_seq ?_
 refine rc_seq ?_
 refine rc_seq ?_
 refine rc_region ?_
 obtain ⟨v103, e103, r103⟩ := api_Table.g_Actions r1
 refine rd_op (ov_faddr rfl e103) ?_
 refine rd_op (ov_load rfl (TR.cnt (tSl tI) r103) (TR.agg (tSl tI) r103)) ?_
 refine rd_op (ov_bi rfl (sl_len r103 Try.underlying29 _)) ?_
 refine rd_op (v := vi 0) (ov_move rfl) ?_
 refine rd_nil ?_
 refine pn_seq ?_
 refine rc_block ?_
 refine rc_weak ?_ (table_checkActions_L1_ok (x0 := x0) (x1 := x1) (v0 := v0) (v1 := v1) (v103 := v103) (i101 := i101) (w101 := w101) (r0 := r0) (r103 := r103) ?_ (Int.toNat ((x1.Actions.length : Int) - 0)) 0 ([] : List (Int × Bool)) ([] : List PV) q101 rfl (by omega) _ (Mem.sub M101 (.cons_cons _ .slnil)) hres)
 ·exact ((sub_cons rfl (sub_cons rfl (sub_cons rfl (sub_cons rfl (sub_cons rfl (sub_cons rfl (sub_nil _))))))))
 ·intro zE102_112 es112E102 q112E102 h112 M112 hres
  refine px_blk ?_
  refine pn_seq ?_
  refine rc_seq ?_
  refine rc_seq ?_
  refine rc_region ?_
  refine rd_op (ov_move rfl) ?_
  obtain ⟨v113, e113, r113⟩ := api_Table.g_Default r1
  refine rd_op (ov_faddr rfl e113) ?_
  refine rd_op (ov_faddr rfl (api_ActionCall.g_Action r113)) ?_
  refine rd_op (ov_load rfl rfl rfl) ?_
  refine rd_lookO (k := 0) (t := tB) (zero := false) M112 rfl rfl rfl q112E102 rfl (fun v114 r114 => ?_)
  have r114 : v114 = vb ((mget zE102_112 x1.Default.Action).getD false) := r114; subst r114
  refine rd_op (ov_not rfl) ?_
  refine rd_nil ?_
  refine pn_seq ?_
  refine rc_cond rfl (fun hc115 => ?_) (fun hc115 => ?_)
  ·replace hres := (ite_t hc115).symm.trans hres
   have hc115' := hc115
   try simp only [qa1, qa2, qa3, qa4, qa5, qa6, qa7, qa8, qa9, qaA, qaB, qaC, qaD] at hc115'
   refine rc_seq ?_
   refine rc_region ?_
   refine rd_op (v := vi 8) (ov_move rfl) ?_
   refine rd_nil ?_
   refine pn_seq ?_
   subst hres
   exact rc_retV (.tmp rfl .nil) (deep_closed rfl) rfl
  ·replace hres := (ite_f hc115).symm.trans hres
   have hc115' := hc115
   try simp only [qa1, qa2, qa3, qa4, qa5, qa6, qa7, qa8, qa9, qaA, qaB, qaC, qaD] at hc115'
   refine rc_skip ?_
   refine pn_seq ?_
   refine rc_seq ?_
   refine rc_region ?_
   refine rd_op (ov_load rfl (TR.cnt api_Program.t r0) (TR.agg api_Program.t r0)) ?_
   obtain ⟨v116, e116, r116⟩ := api_Table.g_Default r1
   refine rd_op (ov_faddr rfl e116) ?_
   refine rd_op (ov_load rfl (TR.cnt api_ActionCall.t r116) (TR.agg api_ActionCall.t r116)) ?_
   obtain ⟨y117, hw117, hres⟩ := let_ex hres
   have f117 := f64_ok  r0 r116 
   rw [hw117] at f117
   refine rd_call (cv_fn rfl rfl (clL_cons (TR.clo api_Program.t r0) (clL_cons (TR.clo api_ActionCall.t r116) clL_nil)) f117) ?_
   refine rd_op (ov_move rfl) ?_
   refine rd_nil ?_
   refine pn_seq ?_
   subst hres
   exact rc_retV (.tmp rfl .nil) (deep_closed rfl) rfl

/-- patchbay/table.Check -/
def RF16 (res : Int × Int) (r : PV) : Prop := r = .tup [vi res.1, vi res.2]
theorem f16_ok {x0 : api_Program} {x1 : Int} {v0 : PV} (r0 : api_Program.t.R x0 v0) : FnR Try.prog 16 [v0, vi x1] (.tup [vi ((table_Check x0 x1).1), vi ((table_Check x0 x1).2)]) := by
 obtain ⟨res, hres⟩ : ∃ res, table_Check x0 x1 = res := ⟨_, rfl⟩
 suffices H : RC Try.prog ac16 [] (QR Try.prog [(4, none), (5, none)] (RF16 res)) (argE 0 [v0, vi x1]) ⟨0, []⟩ by
  obtain ⟨r, h1, h2⟩ := fnE text16 (by simp) H
  rw [hres]
  have h2 : r = .tup [vi res.1, vi res.2] := h2
  rw [← h2]; exact h1
 unfold table_Check at hres
 unfold ac16
 refine rc_seq ?_
 refine rc_region ?_
 refine rd_op (ov_box rfl (TR.cnt api_Program.t r0)) ?_
 refine rd_op (v := vi 0) (ov_move rfl) ?_
 refine rd_op (v := vi 0) (ov_move rfl) ?_
 refine rd_nil ?_
 refine pn_seq ?_
 refine rc_seq ?_
 refine rc_seq ?_
 refine rc_region ?_
 refine rd_op (ov_move rfl) ?_
 refine rd_op (ov_bin rfl rfl i_lss) ?_
 refine rd_op (ov_move rfl) ?_
 refine rd_cut (d := 15) (v := vb ((decide (x1 < 0)) || (decide ((x0.Tables.length : Int) ≤ x1)))) ?_ ?_
 ·intro S Q r
  simp only [ac16_G1, List.cons_append, List.nil_append, List.append_assoc]
  cases hb101 : (decide (x1 < 0))
  ·intro k
   have hb101' := hb101
   try simp only [qa1, qa2, qa3, qa4, qa5, qa6, qa7, qa8, qa9, qaA, qaB, qaC, qaD] at hb101'
   refine rd_yes rfl rfl (ov_move rfl) ?_
   obtain ⟨v102, e102, r102⟩ := api_Program.g_Tables r0
   refine rd_yes rfl rfl (ov_faddr rfl e102) ?_
   refine rd_yes rfl rfl (ov_load rfl (TR.cnt (tSl api_Table.t) r102) (TR.agg (tSl api_Table.t) r102)) ?_
   refine rd_yes rfl rfl (ov_bi rfl (sl_len r102 Try.underlying26 _)) ?_
   refine rd_yes rfl rfl (ov_bin rfl rfl i_geq) ?_
   refine rd_op (v := vb (decide ((x0.Tables.length : Int) ≤ x1))) (ov_pick rfl rfl rfl rfl) ?_
   exact rd_weak (sub_cons rfl (sub_skip rfl (sub_skip rfl (sub_skip rfl (sub_skip rfl (sub_skip rfl (sub_skip rfl (sub_refl _)))))))) k
  ·intro k
   refine rd_skip rfl rfl ?_
   refine rd_skip rfl rfl ?_
   refine rd_skip rfl rfl ?_
   refine rd_skip rfl rfl ?_
   refine rd_skip rfl rfl ?_
   refine rd_op (v := vb true) (ov_pick rfl rfl rfl rfl) ?_
   exact rd_weak (sub_cons rfl (sub_skip rfl (sub_skip rfl (sub_skip rfl (sub_skip rfl (sub_skip rfl (sub_skip rfl (sub_refl _)))))))) k
 refine rd_nil ?_
 refine pn_seq ?_
 refine rc_cond rfl (fun hc103 => ?_) (fun hc103 => ?_)
 ·replace hres := (ite_t hc103).symm.trans hres
  have hc103' := hc103
  try simp only [qa1, qa2, qa3, qa4, qa5, qa6, qa7, qa8, qa9, qaA, qaB, qaC, qaD] at hc103'
  refine rc_seq ?_
  refine rc_region ?_
  refine rd_op (v := vi (-1)) (ov_move rfl) ?_
  refine rd_op (v := vi 8) (ov_move rfl) ?_
  refine rd_nil ?_
  refine pn_seq ?_
  subst hres
  exact rc_retV (.tmp rfl (.tmp rfl .nil)) (deep_closed (show closed (.tup _) = true from (clL_cons rfl (clL_cons rfl clL_nil)))) rfl
 ·replace hres := (ite_f hc103).symm.trans hres
  have hc103' := hc103
  try simp only [qa1, qa2, qa3, qa4, qa5, qa6, qa7, qa8, qa9, qaA, qaB, qaC, qaD] at hc103'
  refine rc_skip ?_
  refine pn_seq ?_
  refine rc_seq ?_
  refine rc_region ?_
  obtain ⟨v104, e104, r104⟩ := api_Program.g_Tables r0
  refine rd_op (ov_faddr rfl e104) ?_
  refine rd_op (ov_load rfl (TR.cnt (tSl api_Table.t) r104) (TR.agg (tSl api_Table.t) r104)) ?_
  refine rd_op (ov_move rfl) ?_
  obtain ⟨v105, e105, r105⟩ := sl_idx (i := x1) r104 (by first | omega | (have hk := tck (by assumption) (by assumption); omega) | (have hk := rtck (by assumption) (by assumption); omega) | (have hk := eck (by assumption) (by assumption) (by assumption); omega) | (have hk := tv (by assumption) (by assumption); omega) | (have hk := rtv (by assumption) (by assumption); omega)) (by first | omega | (have hk := tck (by assumption) (by assumption); omega) | (have hk := rtck (by assumption) (by assumption); omega) | (have hk := eck (by assumption) (by assumption) (by assumption); omega) | (have hk := tv (by assumption) (by assumption); omega) | (have hk := rtv (by assumption) (by assumption); omega))
  refine rd_op (ov_iaddr rfl rfl e105) ?_
  refine rd_op (ov_load rfl (TR.cnt api_Table.t r105) (TR.agg api_Table.t r105)) ?_
  refine rd_allocO (x := .agg [vs [], nilS, nilS, vi 0, nilS, vi 0]) (Mem.nil ⟨0, []⟩) rfl rfl (fun i106 w106 h106 M106 => ?_)
  refine rd_storeO (k := 0) (v := v105) M106 rfl rfl rfl (TR.cnt api_Table.t r105) (fun h108 M108 => ?_)
  replace M108 : Mem h108 [⟨.op i106 w106 0, 56, 6, [v105]⟩] := M108
  refine rd_nil ?_
  refine pn_seq ?_
  refine rc_seq ?_
  refine rc_block ?_
  refine rc_seq ?_
  refine rc_region ?_
  refine rd_op (ov_faddrO rfl) ?_
  refine rd_op (ov_loadf (k := 0) M108 rfl rfl (api_Table.g_Name r105)) ?_
  obtain ⟨y109, hw109, hres⟩ := let_ex hres
  have f109 := f46_ok (x0 := (ix x0.Tables x1).Name)  
  rw [hw109] at f109
  refine rd_call (cv_fn rfl rfl (clL_cons rfl clL_nil) f109) ?_
  refine rd_op (ov_not rfl) ?_
  refine rd_op (ov_move rfl) ?_
  refine rd_nil ?_
  refine pn_seq ?_
  refine rc_cond rfl (fun hc110 => ?_) (fun hc110 => ?_)
  ·replace hres := (ite_t hc110).symm.trans hres
   have hc110' := hc110
   try simp only [qa1, qa2, qa3, qa4, qa5, qa6, qa7, qa8, qa9, qaA, qaB, qaC, qaD] at hc110'
   refine rc_seq ?_
   refine rc_region ?_
   refine rd_op (v := vi (-1)) (ov_move rfl) ?_
   refine rd_op (v := vi 6) (ov_move rfl) ?_
   refine rd_nil ?_
   refine pn_seq ?_
   subst hres
   exact rc_retV (.tmp rfl (.tmp rfl .nil)) (deep_closed (show closed (.tup _) = true from (clL_cons rfl (clL_cons rfl clL_nil)))) rfl
  ·replace hres := (ite_f hc110).symm.trans hres
   have hc110' := hc110
   try simp only [qa1, qa2, qa3, qa4, qa5, qa6, qa7, qa8, qa9, qaA, qaB, qaC, qaD] at hc110'
   refine rc_seq ?_
   refine rc_region ?_
   refine rd_op (ov_faddrO rfl) ?_
   obtain ⟨v111, e111, r111⟩ := api_Table.g_Keys r105
   refine rd_op (ov_loadf (k := 0) M108 rfl rfl e111) ?_
   refine rd_op (ov_bi rfl (sl_len r111 Try.underlying52 _)) ?_
   refine rd_op (ov_bin rfl rfl i_gtr) ?_
   refine rd_op (ov_move rfl) ?_
   refine rd_cut (d := 36) (v := vb ((decide (6 < (((ix x0.Tables x1).Keys).length : Int))) || (decide (16 < (((ix x0.Tables x1).Actions).length : Int))))) ?_ ?_
   ·intro S Q r
    simp only [ac16_G2, List.cons_append, List.nil_append, List.append_assoc]
    cases hb112 : (decide (6 < (((ix x0.Tables x1).Keys).length : Int)))
    ·intro k
     have hb112' := hb112
     try simp only [qa1, qa2, qa3, qa4, qa5, qa6, qa7, qa8, qa9, qaA, qaB, qaC, qaD] at hb112'
     refine rd_yes rfl rfl (ov_faddrO rfl) ?_
     obtain ⟨v113, e113, r113⟩ := api_Table.g_Actions r105
     refine rd_yes rfl rfl (ov_loadf (k := 0) M108 rfl rfl e113) ?_
     refine rd_yes rfl rfl (ov_bi rfl (sl_len r113 Try.underlying29 _)) ?_
     refine rd_yes rfl rfl (ov_bin rfl rfl i_gtr) ?_
     refine rd_op (v := vb (decide (16 < (((ix x0.Tables x1).Actions).length : Int)))) (ov_pick rfl rfl rfl rfl) ?_
     exact rd_weak (sub_cons rfl (sub_skip rfl (sub_skip rfl (sub_skip rfl (sub_skip rfl (sub_skip rfl (sub_refl _))))))) k
    ·intro k
     refine rd_skip rfl rfl ?_
     refine rd_skip rfl rfl ?_
     refine rd_skip rfl rfl ?_
     refine rd_skip rfl rfl ?_
     refine rd_op (v := vb true) (ov_pick rfl rfl rfl rfl) ?_
     exact rd_weak (sub_cons rfl (sub_skip rfl (sub_skip rfl (sub_skip rfl (sub_skip rfl (sub_skip rfl (sub_refl _))))))) k
   refine rd_op (ov_move rfl) ?_
   refine rd_nil ?_
   refine pn_seq ?_
   refine rc_cond rfl (fun hc114 => ?_) (fun hc114 => ?_)
   ·replace hres := (ite_t hc114).symm.trans hres
    have hc114' := hc114
    try simp only [qa1, qa2, qa3, qa4, qa5, qa6, qa7, qa8, qa9, qaA, qaB, qaC, qaD] at hc114'
    refine rc_seq ?_
    refine rc_region ?_
    refine rd_op (v := vi (-1)) (ov_move rfl) ?_
    refine rd_op (v := vi 12) (ov_move rfl) ?_
    refine rd_nil ?_
    refine pn_seq ?_
    subst hres
    exact rc_retV (.tmp rfl (.tmp rfl .nil)) (deep_closed (show closed (.tup _) = true from (clL_cons rfl (clL_cons rfl clL_nil)))) rfl
   ·replace hres := (ite_f hc114).symm.trans hres
    have hc114' := hc114
    try simp only [qa1, qa2, qa3, qa4, qa5, qa6, qa7, qa8, qa9, qaA, qaB, qaC, qaD] at hc114'
    refine rc_seq ?_
    refine rc_region ?_
    refine rd_op (ov_faddrO rfl) ?_
    refine rd_op (ov_loadf (k := 0) M108 rfl rfl (api_Table.g_Size r105)) ?_
    refine rd_op (ov_bin rfl rfl i_lss) ?_
    refine rd_op (ov_move rfl) ?_
    refine rd_cut (d := 45) (v := vb ((decide (((ix x0.Tables x1).Size) < 1)) || (decide (256 < ((ix x0.Tables x1).Size))))) ?_ ?_
    ·intro S Q r
     simp only [ac16_G3, List.cons_append, List.nil_append, List.append_assoc]
     cases hb115 : (decide (((ix x0.Tables x1).Size) < 1))
     ·intro k
      have hb115' := hb115
      try simp only [qa1, qa2, qa3, qa4, qa5, qa6, qa7, qa8, qa9, qaA, qaB, qaC, qaD] at hb115'
      refine rd_yes rfl rfl (ov_faddrO rfl) ?_
      refine rd_yes rfl rfl (ov_loadf (k := 0) M108 rfl rfl (api_Table.g_Size r105)) ?_
      refine rd_yes rfl rfl (ov_bin rfl rfl i_gtr) ?_
      refine rd_op (v := vb (decide (256 < ((ix x0.Tables x1).Size)))) (ov_pick rfl rfl rfl rfl) ?_
      exact rd_weak (sub_cons rfl (sub_skip rfl (sub_skip rfl (sub_skip rfl (sub_skip rfl (sub_refl _)))))) k
     ·intro k
      refine rd_skip rfl rfl ?_
      refine rd_skip rfl rfl ?_
      refine rd_skip rfl rfl ?_
      refine rd_op (v := vb true) (ov_pick rfl rfl rfl rfl) ?_
      exact rd_weak (sub_cons rfl (sub_skip rfl (sub_skip rfl (sub_skip rfl (sub_skip rfl (sub_refl _)))))) k
    refine rd_op (ov_move rfl) ?_
    refine rd_nil ?_
    refine pn_seq ?_
    refine rc_cond rfl (fun hc116 => ?_) (fun hc116 => ?_)
    ·replace hres := (ite_t hc116).symm.trans hres
     have hc116' := hc116
     try simp only [qa1, qa2, qa3, qa4, qa5, qa6, qa7, qa8, qa9, qaA, qaB, qaC, qaD] at hc116'
     refine rc_seq ?_
     refine rc_region ?_
     refine rd_op (v := vi (-1)) (ov_move rfl) ?_
     refine rd_op (v := vi 9) (ov_move rfl) ?_
     refine rd_nil ?_
     refine pn_seq ?_
     subst hres
     exact rc_retV (.tmp rfl (.tmp rfl .nil)) (deep_closed (show closed (.tup _) = true from (clL_cons rfl (clL_cons rfl clL_nil)))) rfl
    ·replace hres := (ite_f hc116).symm.trans hres
     have hc116' := hc116
     try simp only [qa1, qa2, qa3, qa4, qa5, qa6, qa7, qa8, qa9, qaA, qaB, qaC, qaD] at hc116'
     refine rc_skip ?_
     refine pn_blk ?_
     refine pn_seq ?_
     refine rc_seq ?_
     refine rc_seq ?_
     refine rc_region ?_
     refine rd_op (ov_load rfl (TR.cnt api_Program.t r0) (TR.agg api_Program.t r0)) ?_
     refine rd_op (ov_load0 (k := 0) M108 rfl rfl (TR.agg api_Table.t r105)) ?_
     obtain ⟨y117, hw117, hres⟩ := let_ex hres
     have f117 := f47_ok  r0 r105 
     rw [hw117] at f117
     refine rd_call (cv_fn rfl rfl (clL_cons (TR.clo api_Program.t r0) (clL_cons (TR.clo api_Table.t r105) clL_nil)) f117) ?_
     refine rd_op (ov_move rfl) ?_
     refine rd_op (ov_extract rfl rfl) ?_
     refine rd_op (ov_extract rfl rfl) ?_
     refine rd_op (ov_move rfl) ?_
     refine rd_op (ov_move rfl) ?_
     refine rd_nil ?_
     refine pn_seq ?_
     refine rc_seq ?_
     refine rc_region ?_
     refine rd_op (ov_move rfl) ?_
     refine rd_op (ov_bin rfl rfl i_neq) ?_
     refine rd_nil ?_
     refine pn_seq ?_
     refine rc_cond rfl (fun hc118 => ?_) (fun hc118 => ?_)
     ·replace hres := (ite_t hc118).symm.trans hres
      have hc118' := hc118
      try simp only [qa1, qa2, qa3, qa4, qa5, qa6, qa7, qa8, qa9, qaA, qaB, qaC, qaD] at hc118'
      refine rc_seq ?_
      refine rc_region ?_
      refine rd_op (ov_move rfl) ?_
      refine rd_op (ov_move rfl) ?_
      refine rd_op (ov_move rfl) ?_
      refine rd_op (ov_move rfl) ?_
      refine rd_nil ?_
      refine pn_seq ?_
      subst hres
      exact rc_retV (.tmp rfl (.tmp rfl .nil)) (deep_closed (show closed (.tup _) = true from (clL_cons rfl (clL_cons rfl clL_nil)))) rfl
     ·replace hres := (ite_f hc118).symm.trans hres
      have hc118' := hc118
      try simp only [qa1, qa2, qa3, qa4, qa5, qa6, qa7, qa8, qa9, qaA, qaB, qaC, qaD] at hc118'
      refine rc_skip ?_
      refine pn_seq ?_
      refine rc_seq ?_
      refine rc_seq ?_
      refine rc_region ?_
      refine rd_op (ov_load rfl (TR.cnt api_Program.t r0) (TR.agg api_Program.t r0)) ?_
      refine rd_op (ov_load0 (k := 0) M108 rfl rfl (TR.agg api_Table.t r105)) ?_
      obtain ⟨y119, hw119, hres⟩ := let_ex hres
      have f119 := f48_ok  r0 r105 
      rw [hw119] at f119
      refine rd_call (cv_fn rfl rfl (clL_cons (TR.clo api_Program.t r0) (clL_cons (TR.clo api_Table.t r105) clL_nil)) f119) ?_
      refine rd_op (ov_move rfl) ?_
      refine rd_nil ?_
      refine pn_seq ?_
      refine rc_seq ?_
      refine rc_region ?_
      refine rd_op (ov_move rfl) ?_
      refine rd_op (ov_bin rfl rfl i_neq) ?_
      refine rd_nil ?_
      refine pn_seq ?_
      refine rc_cond rfl (fun hc120 => ?_) (fun hc120 => ?_)
      ·replace hres := (ite_t hc120).symm.trans hres
       have hc120' := hc120
       try simp only [qa1, qa2, qa3, qa4, qa5, qa6, qa7, qa8, qa9, qaA, qaB, qaC, qaD] at hc120'
       refine rc_seq ?_
       refine rc_region ?_
       refine rd_op (ov_move rfl) ?_
       refine rd_op (v := vi (-3)) (ov_move rfl) ?_
       refine rd_op (ov_move rfl) ?_
       refine rd_nil ?_
       refine pn_seq ?_
       subst hres
       exact rc_retV (.tmp rfl (.tmp rfl .nil)) (deep_closed (show closed (.tup _) = true from (clL_cons rfl (clL_cons rfl clL_nil)))) rfl
      ·replace hres := (ite_f hc120).symm.trans hres
       have hc120' := hc120
       try simp only [qa1, qa2, qa3, qa4, qa5, qa6, qa7, qa8, qa9, qaA, qaB, qaC, qaD] at hc120'
       refine rc_skip ?_
       refine pn_seq ?_
       refine rc_seq ?_
       refine rc_region ?_
       refine rd_op (v := vi 0) (ov_move rfl) ?_
       refine rd_op (v := vi 0) (ov_move rfl) ?_
       refine rd_nil ?_
       refine pn_seq ?_
       subst hres
       exact rc_retV (.tmp rfl (.tmp rfl .nil)) (deep_closed (show closed (.tup _) = true from (clL_cons rfl (clL_cons rfl clL_nil)))) rfl

/-- patchbay/table.valid -/
def RF52 (res : Bool) (r : PV) : Prop := r = vb res
theorem f52_ok {x0 : api_Program} {x1 : Int} {v0 : PV} (r0 : api_Program.t.R x0 v0) : FnR Try.prog 52 [v0, vi x1] (vb (table_valid x0 x1)) := by
 obtain ⟨res, hres⟩ : ∃ res, table_valid x0 x1 = res := ⟨_, rfl⟩
 suffices H : RC Try.prog ac52 [] (QR Try.prog [(4, none)] (RF52 res)) (argE 0 [v0, vi x1]) ⟨0, []⟩ by
  obtain ⟨r, h1, h2⟩ := fnE text52 (by simp) H
  rw [hres]
  have h2 : r = vb res := h2
  rw [← h2]; exact h1
 unfold table_valid at hres
 unfold ac52
 refine rc_seq ?_
 refine rc_region ?_
 refine rd_op (ov_box rfl (TR.cnt api_Program.t r0)) ?_
 refine rd_op (v := vb false) (ov_move rfl) ?_
 refine rd_nil ?_
 refine pn_seq ?_
 refine rc_seq ?_
 refine rc_region ?_
 refine rd_op (ov_load rfl (TR.cnt api_Program.t r0) (TR.agg api_Program.t r0)) ?_
 refine rd_op (ov_move rfl) ?_
 obtain ⟨y101, hw101, hres⟩ := let_ex hres
 have f101 := f16_ok (x1 := x1) r0 
 rw [hw101] at f101
 refine rd_call (cv_fn rfl rfl (clL_cons (TR.clo api_Program.t r0) (clL_cons rfl clL_nil)) f101) ?_
 refine rd_op (ov_move rfl) ?_
 refine rd_op (ov_extract rfl rfl) ?_
 refine rd_op (ov_extract rfl rfl) ?_
 refine rd_op (ov_move rfl) ?_
 refine rd_op (ov_move rfl) ?_
 refine rd_nil ?_
 refine pn_seq ?_
 refine rc_seq ?_
 refine rc_region ?_
 refine rd_op (ov_move rfl) ?_
 refine rd_op (ov_bin rfl rfl i_eql) ?_
 refine rd_op (ov_move rfl) ?_
 refine rd_nil ?_
 refine pn_seq ?_
 subst hres
 exact rc_retV (.tmp rfl .nil) (deep_closed rfl) rfl

/-- patchbay/table.Kind -/
def RF18 (res : Int) (r : PV) : Prop := r = vi res
theorem table_Kind_L1_ok {S : List Fr} {res : Int} {x0 : api_Program} {x1 : Int} {y101 : Bool} {v105 : PV} (hw101 : table_valid x0 x1 = y101) (hc102 : (!y101) = false) (r105 : (tSl api_TableKey.t).R ((ix x0.Tables x1).Keys) v105) {K0 : Int → Int}
  (hK0 : ∀ (x5_ : Int) (h : Heap) (M0 : Mem h []), K0 x5_ = res → PX Try.prog 0 S (QR Try.prog [(4, none)] (RF18 res)) [(5, vi x5_)] h) :
  ∀ (m : Nat) (x5_ : Int) (x19_ : Int) (hm1 : m = Int.toNat ((((ix x0.Tables x1).Keys).length : Int) - x19_)) (hlo1 : 0 ≤ x19_) (h : Heap) (M0 : Mem h []), table_Kind_L1 x0 x1 K0 m x5_ x19_ = res → RC Try.prog (.loop ac18_L1) S (QR Try.prog [(4, none)] (RF18 res)) [(19, vi x19_), (18, vi (((ix x0.Tables x1).Keys).length : Int)), (17, v105), (5, vi x5_)] h := by
 have hc102' := hc102
 try simp only [qa1, qa2, qa3, qa4, qa5, qa6, qa7, qa8, qa9, qaA, qaB, qaC, qaD] at hc102'
 intro m
 induction m with
 | zero =>
  intro x5_ x19_ hm1 hlo1 h M0 hres
  rw [table_Kind_L1] at hres
  refine rc_loop ?_
  unfold ac18_L1
  refine rc_seq ?_
  refine rc_region ?_
  refine rd_op (ov_bin rfl rfl i_lss) ?_
  refine rd_nil ?_
  refine pn_seq ?_
  refine rc_seq ?_
  refine rc_cond rfl (fun hc106 => ?_) (fun hc106 => ?_)
  ·exfalso
   try simp only [qa1, qa2, qa3, qa4, qa5, qa6, qa7, qa8, qa9, qaA, qaB, qaC, qaD] at hc106
   omega
  ·have hend := hres
   have hc106' := hc106
   try simp only [qa1, qa2, qa3, qa4, qa5, qa6, qa7, qa8, qa9, qaA, qaB, qaC, qaD] at hc106'
   refine rc_exit ?_
   refine px_seq ?_
   refine px_again ?_
   exact px_weak ((sub_cons rfl (sub_nil _))) (hK0 x5_ _ (Mem.sub M0 .slnil) hres)
 | succ m ih =>
  intro x5_ x19_ hm1 hlo1 h M0 hres
  rw [table_Kind_L1] at hres
  refine rc_loop ?_
  unfold ac18_L1
  refine rc_seq ?_
  refine rc_region ?_
  refine rd_op (ov_bin rfl rfl i_lss) ?_
  refine rd_nil ?_
  refine pn_seq ?_
  refine rc_seq ?_
  refine rc_cond rfl (fun hc107 => ?_) (fun hc107 => ?_)
  ·have hgo := hres
   have hc107' := hc107
   try simp only [qa1, qa2, qa3, qa4, qa5, qa6, qa7, qa8, qa9, qaA, qaB, qaC, qaD] at hc107'
   refine rc_skip ?_
   refine pn_seq ?_
   refine rc_seq ?_
   refine rc_block ?_
   refine rc_seq ?_
   refine rc_region ?_
   obtain ⟨v108, e108, r108⟩ := sl_idx (i := x19_) r105 (by first | omega | (have hk := tck (by assumption) (by assumption); omega) | (have hk := rtck (by assumption) (by assumption); omega) | (have hk := eck (by assumption) (by assumption) (by assumption); omega) | (have hk := tv (by assumption) (by assumption); omega) | (have hk := rtv (by assumption) (by assumption); omega)) (by first | omega | (have hk := tck (by assumption) (by assumption); omega) | (have hk := rtck (by assumption) (by assumption); omega) | (have hk := eck (by assumption) (by assumption) (by assumption); omega) | (have hk := tv (by assumption) (by assumption); omega) | (have hk := rtv (by assumption) (by assumption); omega))
   refine rd_op (ov_iaddr rfl rfl e108) ?_
   refine rd_op (ov_load rfl (TR.cnt api_TableKey.t r108) (TR.agg api_TableKey.t r108)) ?_
   refine rd_allocO (x := .agg [vi 0, vi 0, vi 0]) M0 rfl rfl (fun i109 w109 h109 M109 => ?_)
   refine rd_storeO (k := 0) (v := v108) M109 rfl rfl rfl (TR.cnt api_TableKey.t r108) (fun h111 M111 => ?_)
   replace M111 : Mem h111 [⟨.op i109 w109 0, 62, 3, [v108]⟩] := M111
   refine rd_nil ?_
   refine pn_seq ?_
   refine rc_block ?_
   refine rc_seq ?_
   refine rc_region ?_
   refine rd_op (ov_faddrO rfl) ?_
   refine rd_op (ov_loadf (k := 0) M111 rfl rfl (api_TableKey.g_Kind r108)) ?_
   refine rd_op (ov_bin rfl rfl i_eql) ?_
   refine rd_op (ov_move rfl) ?_
   refine rd_nil ?_
   refine pn_seq ?_
   refine rc_cond rfl (fun hc112 => ?_) (fun hc112 => ?_)
   ·replace hres := (ite_t hc112).symm.trans hres
    have hc112' := hc112
    try simp only [qa1, qa2, qa3, qa4, qa5, qa6, qa7, qa8, qa9, qaA, qaB, qaC, qaD] at hc112'
    refine rc_seq ?_
    refine rc_region ?_
    refine rd_op (v := vi 3) (ov_move rfl) ?_
    refine rd_nil ?_
    refine pn_seq ?_
    subst hres
    exact rc_retV (.tmp rfl .nil) (deep_closed rfl) rfl
   ·replace hres := (ite_f hc112).symm.trans hres
    have hc112' := hc112
    try simp only [qa1, qa2, qa3, qa4, qa5, qa6, qa7, qa8, qa9, qaA, qaB, qaC, qaD] at hc112'
    refine rc_seq ?_
    refine rc_region ?_
    refine rd_op (ov_faddrO rfl) ?_
    refine rd_op (ov_loadf (k := 0) M111 rfl rfl (api_TableKey.g_Kind r108)) ?_
    refine rd_op (ov_bin rfl rfl i_eql) ?_
    refine rd_op (ov_move rfl) ?_
    refine rd_nil ?_
    refine pn_seq ?_
    refine rc_cond rfl (fun hc113 => ?_) (fun hc113 => ?_)
    ·replace hres := (ite_t hc113).symm.trans hres
     have hc113' := hc113
     try simp only [qa1, qa2, qa3, qa4, qa5, qa6, qa7, qa8, qa9, qaA, qaB, qaC, qaD] at hc113'
     refine rc_region ?_
     refine rd_op (v := vi 2) (ov_move rfl) ?_
     refine rd_nil ?_
     refine pn_blk ?_
     refine pn_blk ?_
     refine pn_seq ?_
     refine rc_region ?_
     refine rd_op (ov_bin rfl rfl i_add) ?_
     refine rd_op (ov_move rfl) ?_
     refine rd_nil ?_
     refine pn_again ?_
     have hbd := sl_bound r105
     have hinc : wr (x19_ + 1) = x19_ + 1 := wr_of (by omega) (by omega)
     rw [hinc]
     refine rc_weak ?_ (ih 2 (x19_ + 1)  (by omega) (by omega) _ (Mem.sub M111 (.cons _ .slnil)) hres)
     exact ((sub_cons rfl (sub_cons rfl (sub_cons rfl (sub_cons rfl (sub_nil _))))))
    ·replace hres := (ite_f hc113).symm.trans hres
     have hc113' := hc113
     try simp only [qa1, qa2, qa3, qa4, qa5, qa6, qa7, qa8, qa9, qaA, qaB, qaC, qaD] at hc113'
     refine rc_skip ?_
     refine pn_blk ?_
     refine pn_blk ?_
     refine pn_seq ?_
     refine rc_region ?_
     refine rd_op (ov_bin rfl rfl i_add) ?_
     refine rd_op (ov_move rfl) ?_
     refine rd_nil ?_
     refine pn_again ?_
     have hbd := sl_bound r105
     have hinc : wr (x19_ + 1) = x19_ + 1 := wr_of (by omega) (by omega)
     rw [hinc]
     refine rc_weak ?_ (ih x5_ (x19_ + 1)  (by omega) (by omega) _ (Mem.sub M111 (.cons _ .slnil)) hres)
     exact ((sub_cons rfl (sub_cons rfl (sub_cons rfl (sub_cons rfl (sub_nil _))))))
  ·exfalso
   try simp only [qa1, qa2, qa3, qa4, qa5, qa6, qa7, qa8, qa9, qaA, qaB, qaC, qaD] at hc107
   omega

theorem f18_ok {x0 : api_Program} {x1 : Int} {v0 : PV} (r0 : api_Program.t.R x0 v0) : FnR Try.prog 18 [v0, vi x1] (vi (table_Kind x0 x1)) := by
 obtain ⟨res, hres⟩ : ∃ res, table_Kind x0 x1 = res := ⟨_, rfl⟩
 suffices H : RC Try.prog ac18 [] (QR Try.prog [(4, none)] (RF18 res)) (argE 0 [v0, vi x1]) ⟨0, []⟩ by
  obtain ⟨r, h1, h2⟩ := fnE text18 (by simp) H
  rw [hres]
  have h2 : r = vi res := h2
  rw [← h2]; exact h1
 unfold table_Kind at hres
 unfold ac18
 refine rc_seq ?_
 refine rc_region ?_
 refine rd_op (ov_box rfl (TR.cnt api_Program.t r0)) ?_
 refine rd_op (v := vi 0) (ov_move rfl) ?_
 refine rd_nil ?_
 refine pn_seq ?_
 refine rc_seq ?_
 refine rc_seq ?_
 refine rc_region ?_
 refine rd_op (ov_load rfl (TR.cnt api_Program.t r0) (TR.agg api_Program.t r0)) ?_
 refine rd_op (ov_move rfl) ?_
 obtain ⟨y101, hw101, hres⟩ := let_ex hres
 have f101 := f52_ok (x1 := x1) r0 
 rw [hw101] at f101
 refine rd_call (cv_fn rfl rfl (clL_cons (TR.clo api_Program.t r0) (clL_cons rfl clL_nil)) f101) ?_
 refine rd_op (ov_not rfl) ?_
 refine rd_nil ?_
 refine pn_seq ?_
 refine rc_cond rfl (fun hc102 => ?_) (fun hc102 => ?_)
 ·replace hres := (ite_t hc102).symm.trans hres
  have hc102' := hc102
  try simp only [qa1, qa2, qa3, qa4, qa5, qa6, qa7, qa8, qa9, qaA, qaB, qaC, qaD] at hc102'
  refine rc_seq ?_
  refine rc_region ?_
  refine rd_op (v := vi 0) (ov_move rfl) ?_
  refine rd_nil ?_
  refine pn_seq ?_
  subst hres
  exact rc_retV (.tmp rfl .nil) (deep_closed rfl) rfl
 ·replace hres := (ite_f hc102).symm.trans hres
  have hc102' := hc102
  try simp only [qa1, qa2, qa3, qa4, qa5, qa6, qa7, qa8, qa9, qaA, qaB, qaC, qaD] at hc102'
  refine rc_skip ?_
  refine pn_seq ?_
  refine rc_seq ?_
  refine rc_region ?_
  refine rd_op (v := vi 1) (ov_move rfl) ?_
  refine rd_nil ?_
  refine pn_seq ?_
  refine rc_seq ?_
  refine rc_seq ?_
  refine rc_region ?_
  obtain ⟨v103, e103, r103⟩ := api_Program.g_Tables r0
  refine rd_op (ov_faddr rfl e103) ?_
  refine rd_op (ov_load rfl (TR.cnt (tSl api_Table.t) r103) (TR.agg (tSl api_Table.t) r103)) ?_
  refine rd_op (ov_move rfl) ?_
  obtain ⟨v104, e104, r104⟩ := sl_idx (i := x1) r103 (by first | omega | (have hk := tck (by assumption) (by assumption); omega) | (have hk := rtck (by assumption) (by assumption); omega) | (have hk := eck (by assumption) (by assumption) (by assumption); omega) | (have hk := tv (by assumption) (by assumption); omega) | (have hk := rtv (by assumption) (by assumption); omega)) (by first | omega | (have hk := tck (by assumption) (by assumption); omega) | (have hk := rtck (by assumption) (by assumption); omega) | (have hk := eck (by assumption) (by assumption) (by assumption); omega) | (have hk := tv (by assumption) (by assumption); omega) | (have hk := rtv (by assumption) (by assumption); omega))
  refine rd_op (ov_iaddr rfl rfl e104) ?_
  obtain ⟨v105, e105, r105⟩ := api_Table.g_Keys r104
  refine rd_op (ov_faddr rfl e105) ?_
  refine rd_op (ov_load rfl (TR.cnt (tSl api_TableKey.t) r105) (TR.agg (tSl api_TableKey.t) r105)) ?_
  refine rd_op (ov_bi rfl (sl_len r105 Try.underlying52 _)) ?_
  refine rd_op (v := vi 0) (ov_move rfl) ?_
  refine rd_nil ?_
  refine pn_seq ?_
  refine rc_block ?_
  refine rc_weak ?_ (table_Kind_L1_ok (x0 := x0) (x1 := x1) (y101 := y101) (v105 := v105)  (hw101 := hw101) (hc102 := hc102) (r105 := r105) ?_ (Int.toNat ((((ix x0.Tables x1).Keys).length : Int) - 0)) 1 0 rfl (by omega) _ (Mem.sub (Mem.nil ⟨0, []⟩) .slnil) hres)
  ·exact ((sub_cons rfl (sub_cons rfl (sub_cons rfl (sub_cons rfl (sub_nil _))))))
  ·intro x5_114 h114 M114 hres
   refine px_blk ?_
   refine pn_seq ?_
   refine rc_seq ?_
   refine rc_region ?_
   refine rd_op (ov_move rfl) ?_
   refine rd_op (ov_move rfl) ?_
   refine rd_nil ?_
   refine pn_seq ?_
   subst hres
   exact rc_retV (.tmp rfl .nil) (deep_closed rfl) rfl

end Go.Proofs.Ytklfdkbemkommaa
