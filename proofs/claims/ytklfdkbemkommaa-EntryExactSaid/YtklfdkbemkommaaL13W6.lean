/-
  The code of each function does what its plain program says.
-/
import Derived.Test.YtklfdkbemkommaaL13W5
set_option linter.unusedVariables false
set_option linter.unusedSimpArgs false
set_option maxRecDepth 100000
namespace Go.Proofs.Ytklfdkbemkommaa
open Go Go.Pb Go.RowKit
/-- patchbay/patchbaylaw23.EntryExact -/
def RF13 (res : Bool) (r : PV) : Prop := r = vb res
theorem law23_EntryExact_L1_ok {S : List Fr} {res : Bool} {x0 : api_Program} {x1 : Int} {x2 : law23_Pair} {y109 : Bool} {y119 : Bool} {y125 : Bool} {v0 : PV} {v2 : PV} {v101 : PV} {v102 : PV} {i103 : Nat} {w103 : Nat} {i105 : Nat} {w105 : Nat} (r0 : api_Program.t.R x0 v0) (hw109 : law17_Small x0 = y109) (hc116 : ((((!y109) || (!(law23_Small x2.A))) || (!(law23_Small x2.B))) || (decide (10 < (x2.Key.length : Int)))) = false) (hw119 : entry_Matches x2.A x2.Key = y119) (hc123 : (y119 && (!decide ((x2.Key.length : Int) = (x2.A.Keys.length : Int)))) = false) (hw125 : entry_Matches x2.A x2.Key = y125) (hc157 : ((((decide (x1 < 0)) || (decide ((x0.Tables.length : Int) ≤ x1))) || (!decide ((entry_Check x0 x1 x2.A) = 0))) || (!decide ((entry_Check x0 x1 x2.B) = 0))) = false) {K4 : Unit → Bool}
    (hK4 : ∀ (h : Heap) (M0 : Mem h [⟨.op i105 w105 0, 69, 4, [v102]⟩, ⟨.op i103 w103 0, 69, 4, [v101]⟩]), K4 () = res → PX Try.prog 4 S (QR Try.prog [(6, none)] (RF13 res)) [(5, .fp v2), (7, .op i103 w103 0), (8, .op i105 w105 0)] h) :
    ∀ (m : Nat) (x12_ : Int) (hm1 : m = Int.toNat ((((ix x0.Tables x1).Keys).length : Int) - x12_)) (hlo1 : 0 ≤ x12_) (h : Heap) (M0 : Mem h [⟨.op i105 w105 0, 69, 4, [v102]⟩, ⟨.op i103 w103 0, 69, 4, [v101]⟩]), law23_EntryExact_L1 x0 x1 K4 m x12_ = res → RC Try.prog (.loop ac13_L3) S (QR Try.prog [(6, none)] (RF13 res)) [(12, vi x12_), (8, .op i105 w105 0), (7, .op i103 w103 0), (5, .fp v2), (3, .fp v0), (1, vi x1)] h := by
  have hc116' := hc116
  try simp only [Bool.or_eq_true, Bool.or_eq_false_iff, Bool.and_eq_true, Bool.and_eq_false_imp, decide_eq_true_eq, decide_eq_false_iff_not, Bool.not_eq_true', Bool.not_eq_false', Bool.not_eq_true, Bool.not_eq_false, Bool.not_true, Bool.not_false, ne_eq] at hc116'
  have hc123' := hc123
  try simp only [Bool.or_eq_true, Bool.or_eq_false_iff, Bool.and_eq_true, Bool.and_eq_false_imp, decide_eq_true_eq, decide_eq_false_iff_not, Bool.not_eq_true', Bool.not_eq_false', Bool.not_eq_true, Bool.not_eq_false, Bool.not_true, Bool.not_false, ne_eq] at hc123'
  have hc157' := hc157
  try simp only [Bool.or_eq_true, Bool.or_eq_false_iff, Bool.and_eq_true, Bool.and_eq_false_imp, decide_eq_true_eq, decide_eq_false_iff_not, Bool.not_eq_true', Bool.not_eq_false', Bool.not_eq_true, Bool.not_eq_false, Bool.not_true, Bool.not_false, ne_eq] at hc157'
  intro m
  induction m with
  | zero =>
    intro x12_ hm1 hlo1 h M0 hres
    rw [law23_EntryExact_L1] at hres
    refine rc_loop ?_
    unfold ac13_L3
    refine rc_seq ?_
    refine rc_seq ?_
    refine rc_region ?_
    refine rd_op (ov_move rfl) ?_
    obtain ⟨v159, e159, r159⟩ := api_Program.g_Tables r0
    refine rd_op (ov_faddr rfl e159) ?_
    refine rd_op (ov_load rfl (TR.cnt (tSl api_Table.t) r159) (TR.agg (tSl api_Table.t) r159)) ?_
    refine rd_op (ov_move rfl) ?_
    obtain ⟨v160, e160, r160⟩ := sl_idx (i := x1) r159 (by first | omega | (have hk := em_len (by assumption : entry_Matches x2.A x2.Key = y125) (by assumption); omega)) (by first | omega | (have hk := em_len (by assumption : entry_Matches x2.A x2.Key = y125) (by assumption); omega))
    refine rd_op (ov_iaddr rfl rfl e160) ?_
    obtain ⟨v161, e161, r161⟩ := api_Table.g_Keys r160
    refine rd_op (ov_faddr rfl e161) ?_
    refine rd_op (ov_load rfl (TR.cnt (tSl api_TableKey.t) r161) (TR.agg (tSl api_TableKey.t) r161)) ?_
    refine rd_op (ov_bi rfl (sl_len r161 Try.underlying52 _)) ?_
    refine rd_op (ov_bin rfl rfl i_lss) ?_
    refine rd_nil ?_
    refine pn_seq ?_
    refine rc_cond rfl (fun hc162 => ?_) (fun hc162 => ?_)
    · exfalso
      try simp only [Bool.or_eq_true, Bool.or_eq_false_iff, Bool.and_eq_true, Bool.and_eq_false_imp, decide_eq_true_eq, decide_eq_false_iff_not, Bool.not_eq_true', Bool.not_eq_false', Bool.not_eq_true, Bool.not_eq_false, Bool.not_true, Bool.not_false, ne_eq] at hc162
      omega
    · have hend := hres
      have hc162' := hc162
      try simp only [Bool.or_eq_true, Bool.or_eq_false_iff, Bool.and_eq_true, Bool.and_eq_false_imp, decide_eq_true_eq, decide_eq_false_iff_not, Bool.not_eq_true', Bool.not_eq_false', Bool.not_eq_true, Bool.not_eq_false, Bool.not_true, Bool.not_false, ne_eq] at hc162'
      refine rc_exit ?_
      refine px_seq ?_
      refine px_again ?_
      exact px_weak ((sub_cons rfl (sub_cons rfl (sub_cons rfl (sub_nil _))))) (hK4 _ (Mem.sub M0 (.cons_cons _ (.cons_cons _ .slnil))) hres)
  | succ m ih =>
    intro x12_ hm1 hlo1 h M0 hres
    rw [law23_EntryExact_L1] at hres
    refine rc_loop ?_
    unfold ac13_L3
    refine rc_seq ?_
    refine rc_seq ?_
    refine rc_region ?_
    refine rd_op (ov_move rfl) ?_
    obtain ⟨v163, e163, r163⟩ := api_Program.g_Tables r0
    refine rd_op (ov_faddr rfl e163) ?_
    refine rd_op (ov_load rfl (TR.cnt (tSl api_Table.t) r163) (TR.agg (tSl api_Table.t) r163)) ?_
    refine rd_op (ov_move rfl) ?_
    obtain ⟨v164, e164, r164⟩ := sl_idx (i := x1) r163 (by first | omega | (have hk := em_len (by assumption : entry_Matches x2.A x2.Key = y125) (by assumption); omega)) (by first | omega | (have hk := em_len (by assumption : entry_Matches x2.A x2.Key = y125) (by assumption); omega))
    refine rd_op (ov_iaddr rfl rfl e164) ?_
    obtain ⟨v165, e165, r165⟩ := api_Table.g_Keys r164
    refine rd_op (ov_faddr rfl e165) ?_
    refine rd_op (ov_load rfl (TR.cnt (tSl api_TableKey.t) r165) (TR.agg (tSl api_TableKey.t) r165)) ?_
    refine rd_op (ov_bi rfl (sl_len r165 Try.underlying52 _)) ?_
    refine rd_op (ov_bin rfl rfl i_lss) ?_
    refine rd_nil ?_
    refine pn_seq ?_
    refine rc_cond rfl (fun hc166 => ?_) (fun hc166 => ?_)
    · have hgo := hres
      have hc166' := hc166
      try simp only [Bool.or_eq_true, Bool.or_eq_false_iff, Bool.and_eq_true, Bool.and_eq_false_imp, decide_eq_true_eq, decide_eq_false_iff_not, Bool.not_eq_true', Bool.not_eq_false', Bool.not_eq_true, Bool.not_eq_false, Bool.not_true, Bool.not_false, ne_eq] at hc166'
      refine rc_skip ?_
      refine pn_seq ?_
      refine rc_seq ?_
      refine rc_block ?_
      refine rc_seq ?_
      refine rc_region ?_
      obtain ⟨v167, e167, r167⟩ := api_Program.g_Tables r0
      refine rd_op (ov_faddr rfl e167) ?_
      refine rd_op (ov_load rfl (TR.cnt (tSl api_Table.t) r167) (TR.agg (tSl api_Table.t) r167)) ?_
      refine rd_op (ov_move rfl) ?_
      obtain ⟨v168, e168, r168⟩ := sl_idx (i := x1) r167 (by first | omega | (have hk := em_len (by assumption : entry_Matches x2.A x2.Key = y125) (by assumption); omega)) (by first | omega | (have hk := em_len (by assumption : entry_Matches x2.A x2.Key = y125) (by assumption); omega))
      refine rd_op (ov_iaddr rfl rfl e168) ?_
      obtain ⟨v169, e169, r169⟩ := api_Table.g_Keys r168
      refine rd_op (ov_faddr rfl e169) ?_
      refine rd_op (ov_load rfl (TR.cnt (tSl api_TableKey.t) r169) (TR.agg (tSl api_TableKey.t) r169)) ?_
      refine rd_op (ov_move rfl) ?_
      obtain ⟨v170, e170, r170⟩ := sl_idx (i := x12_) r169 (by first | omega | (have hk := em_len (by assumption : entry_Matches x2.A x2.Key = y125) (by assumption); omega)) (by first | omega | (have hk := em_len (by assumption : entry_Matches x2.A x2.Key = y125) (by assumption); omega))
      refine rd_op (ov_iaddr rfl rfl e170) ?_
      refine rd_op (ov_faddr rfl (api_TableKey.g_Kind r170)) ?_
      refine rd_op (ov_load rfl rfl rfl) ?_
      refine rd_op (ov_bin rfl rfl i_neq) ?_
      refine rd_nil ?_
      refine pn_seq ?_
      refine rc_cond rfl (fun hc171 => ?_) (fun hc171 => ?_)
      · replace hres := (ite_t hc171).symm.trans hres
        have hc171' := hc171
        try simp only [Bool.or_eq_true, Bool.or_eq_false_iff, Bool.and_eq_true, Bool.and_eq_false_imp, decide_eq_true_eq, decide_eq_false_iff_not, Bool.not_eq_true', Bool.not_eq_false', Bool.not_eq_true, Bool.not_eq_false, Bool.not_true, Bool.not_false, ne_eq] at hc171'
        refine rc_seq ?_
        refine rc_region ?_
        obtain ⟨y172, hw172, hres⟩ := let_ex hres
        have f172 := f33_ok   
        rw [hw172] at f172
        refine rd_call (cv_fn rfl rfl clL_nil f172) ?_
        refine rd_op (ov_move rfl) ?_
        refine rd_nil ?_
        refine pn_seq ?_
        subst hres
        exact rc_retV (.tmp rfl .nil) (deep_closed rfl) rfl
      · replace hres := (ite_f hc171).symm.trans hres
        have hc171' := hc171
        try simp only [Bool.or_eq_true, Bool.or_eq_false_iff, Bool.and_eq_true, Bool.and_eq_false_imp, decide_eq_true_eq, decide_eq_false_iff_not, Bool.not_eq_true', Bool.not_eq_false', Bool.not_eq_true, Bool.not_eq_false, Bool.not_true, Bool.not_false, ne_eq] at hc171'
        refine rc_skip ?_
        refine pn_blk ?_
        refine pn_seq ?_
        refine rc_region ?_
        refine rd_op (ov_move rfl) ?_
        refine rd_op (ov_bin rfl rfl i_add) ?_
        refine rd_op (ov_move rfl) ?_
        refine rd_nil ?_
        refine pn_again ?_
        have hbd := sl_bound r165
        have hinc : wr (x12_ + 1) = x12_ + 1 := wr_of (by omega) (by omega)
        rw [hinc]
        refine rc_weak ?_ (ih (x12_ + 1)  (by omega) (by omega) _ (Mem.sub M0 (.cons_cons _ (.cons_cons _ .slnil))) hres)
        exact ((sub_cons rfl (sub_cons rfl (sub_cons rfl (sub_cons rfl (sub_cons rfl (sub_cons rfl (sub_nil _))))))))
    · exfalso
      try simp only [Bool.or_eq_true, Bool.or_eq_false_iff, Bool.and_eq_true, Bool.and_eq_false_imp, decide_eq_true_eq, decide_eq_false_iff_not, Bool.not_eq_true', Bool.not_eq_false', Bool.not_eq_true, Bool.not_eq_false, Bool.not_true, Bool.not_false, ne_eq] at hc166
      omega

theorem law23_EntryExact_L3_ok {S : List Fr} {res : Bool} {x0 : api_Program} {x1 : Int} {x2 : law23_Pair} {y109 : Bool} {y119 : Bool} {y125 : Bool} {x9_ : Int} {v0 : PV} {v2 : PV} {v101 : PV} {v102 : PV} {i103 : Nat} {w103 : Nat} {i105 : Nat} {w105 : Nat} (r2 : law23_Pair.t.R x2 v2) (r101 : api_Entry.t.R x2.A v101) (hw109 : law17_Small x0 = y109) (hc116 : ((((!y109) || (!(law23_Small x2.A))) || (!(law23_Small x2.B))) || (decide (10 < (x2.Key.length : Int)))) = false) (hw119 : entry_Matches x2.A x2.Key = y119) (hc123 : (y119 && (!decide ((x2.Key.length : Int) = (x2.A.Keys.length : Int)))) = false) (hw125 : entry_Matches x2.A x2.Key = y125) (hc183 : y125 = true) (hlo2 : 0 ≤ x9_) (hc187 : (decide (x9_ < (x2.Key.length : Int))) = true) {K2 : Unit → Bool}
    (hK2 : ∀ (h : Heap) (M0 : Mem h [⟨.op i105 w105 0, 69, 4, [v102]⟩, ⟨.op i103 w103 0, 69, 4, [v101]⟩]), K2 () = res → PX Try.prog 2 S (QR Try.prog [(6, none)] (RF13 res)) [(1, vi x1), (3, .fp v0), (5, .fp v2), (7, .op i103 w103 0), (8, .op i105 w105 0), (9, vi x9_)] h) :
    ∀ (m : Nat) (x10_ : Int) (hm3 : m = Int.toNat (32 - x10_)) (hlo3 : 0 ≤ x10_) (h : Heap) (M0 : Mem h [⟨.op i105 w105 0, 69, 4, [v102]⟩, ⟨.op i103 w103 0, 69, 4, [v101]⟩]), law23_EntryExact_L3 x2 x9_ K2 m x10_ = res → RC Try.prog (.loop ac13_L2) S (QR Try.prog [(6, none)] (RF13 res)) [(10, vi x10_), (9, vi x9_), (8, .op i105 w105 0), (7, .op i103 w103 0), (5, .fp v2), (3, .fp v0), (1, vi x1)] h := by
  have hc116' := hc116
  try simp only [Bool.or_eq_true, Bool.or_eq_false_iff, Bool.and_eq_true, Bool.and_eq_false_imp, decide_eq_true_eq, decide_eq_false_iff_not, Bool.not_eq_true', Bool.not_eq_false', Bool.not_eq_true, Bool.not_eq_false, Bool.not_true, Bool.not_false, ne_eq] at hc116'
  have hc123' := hc123
  try simp only [Bool.or_eq_true, Bool.or_eq_false_iff, Bool.and_eq_true, Bool.and_eq_false_imp, decide_eq_true_eq, decide_eq_false_iff_not, Bool.not_eq_true', Bool.not_eq_false', Bool.not_eq_true, Bool.not_eq_false, Bool.not_true, Bool.not_false, ne_eq] at hc123'
  have hc183' := hc183
  try simp only [Bool.or_eq_true, Bool.or_eq_false_iff, Bool.and_eq_true, Bool.and_eq_false_imp, decide_eq_true_eq, decide_eq_false_iff_not, Bool.not_eq_true', Bool.not_eq_false', Bool.not_eq_true, Bool.not_eq_false, Bool.not_true, Bool.not_false, ne_eq] at hc183'
  have hc187' := hc187
  try simp only [Bool.or_eq_true, Bool.or_eq_false_iff, Bool.and_eq_true, Bool.and_eq_false_imp, decide_eq_true_eq, decide_eq_false_iff_not, Bool.not_eq_true', Bool.not_eq_false', Bool.not_eq_true, Bool.not_eq_false, Bool.not_true, Bool.not_false, ne_eq] at hc187'
  intro m
  induction m with
  | zero =>
    intro x10_ hm3 hlo3 h M0 hres
    rw [law23_EntryExact_L3] at hres
    refine rc_loop ?_
    unfold ac13_L2
    refine rc_seq ?_
    refine rc_seq ?_
    refine rc_region ?_
    refine rd_op (ov_move rfl) ?_
    refine rd_op (ov_bin rfl rfl i_lss) ?_
    refine rd_nil ?_
    refine pn_seq ?_
    refine rc_cond rfl (fun hc188 => ?_) (fun hc188 => ?_)
    · exfalso
      try simp only [Bool.or_eq_true, Bool.or_eq_false_iff, Bool.and_eq_true, Bool.and_eq_false_imp, decide_eq_true_eq, decide_eq_false_iff_not, Bool.not_eq_true', Bool.not_eq_false', Bool.not_eq_true, Bool.not_eq_false, Bool.not_true, Bool.not_false, ne_eq] at hc188
      omega
    · have hend := hres
      have hc188' := hc188
      try simp only [Bool.or_eq_true, Bool.or_eq_false_iff, Bool.and_eq_true, Bool.and_eq_false_imp, decide_eq_true_eq, decide_eq_false_iff_not, Bool.not_eq_true', Bool.not_eq_false', Bool.not_eq_true, Bool.not_eq_false, Bool.not_true, Bool.not_false, ne_eq] at hc188'
      refine rc_exit ?_
      refine px_seq ?_
      refine px_again ?_
      exact px_weak ((sub_cons rfl (sub_cons rfl (sub_cons rfl (sub_cons rfl (sub_cons rfl (sub_cons rfl (sub_nil _)))))))) (hK2 _ (Mem.sub M0 (.cons_cons _ (.cons_cons _ .slnil))) hres)
  | succ m ih =>
    intro x10_ hm3 hlo3 h M0 hres
    rw [law23_EntryExact_L3] at hres
    refine rc_loop ?_
    unfold ac13_L2
    refine rc_seq ?_
    refine rc_seq ?_
    refine rc_region ?_
    refine rd_op (ov_move rfl) ?_
    refine rd_op (ov_bin rfl rfl i_lss) ?_
    refine rd_nil ?_
    refine pn_seq ?_
    refine rc_cond rfl (fun hc189 => ?_) (fun hc189 => ?_)
    · have hgo := hres
      have hc189' := hc189
      try simp only [Bool.or_eq_true, Bool.or_eq_false_iff, Bool.and_eq_true, Bool.and_eq_false_imp, decide_eq_true_eq, decide_eq_false_iff_not, Bool.not_eq_true', Bool.not_eq_false', Bool.not_eq_true, Bool.not_eq_false, Bool.not_true, Bool.not_false, ne_eq] at hc189'
      refine rc_skip ?_
      refine pn_seq ?_
      refine rc_seq ?_
      refine rc_block ?_
      refine rc_seq ?_
      refine rc_region ?_
      refine rd_op (v := .fs true []) (ov_bslice rfl all_nil) ?_
      have r190 : (tSl tU32).R ([] : List (BitVec 32)) (.fs true []) := sl_fs trivial (by simp)
      obtain ⟨v191, e191, r191⟩ := law23_Pair.g_Key r2
      refine rd_op (ov_faddr rfl e191) ?_
      refine rd_op (ov_load rfl (TR.cnt (tSl tU32) r191) (TR.agg (tSl tU32) r191)) ?_
      have a192 := r190
      have q192 : All2 tU32.R ([] : List (BitVec 32)) ([] : List PV) := sl_all2 a192
      have M192 := mem_acc (sz := 1) (es := ([] : List PV)) M0 57 (.inr rfl) (All2.cnt (t := tU32) q192)
      obtain ⟨nw194, sr194, ar194⟩ := src_of (t := tU32) (h := h) r191
      have f194 : fits (([] : List PV).length + nw194.length) 4 = true := by rw [All2.length_eq q192, All2.length_eq ar194]; (try simp only [List.length_cons, List.length_nil]); exact fits_of (by first | omega | (simp only [List.length_append, List.length_cons, List.length_nil] at *; omega)) (by first | omega | (simp only [List.length_append, List.length_cons, List.length_nil] at *; omega))
      refine rd_appW (k := 0) (es := ([] : List PV)) (news := nw194) M192 rfl rfl rfl rfl (.inl rfl) sr194 f194 (fun a194 h194 n194 wr194 M194 => ?_)
      have q194 : All2 tU32.R x2.Key (([] : List PV) ++ nw194) := All2.app q192 ar194
      have hl194 : x2.Key.length ≤ 4611686018427387904 := by rw [← All2.length_eq q194, List.length_append]; exact fits_len f194
      refine rd_op (ov_move rfl) ?_
      refine rd_nil ?_
      refine pn_seq ?_
      refine rc_seq ?_
      refine rc_region ?_
      refine rd_op (ov_move rfl) ?_
      refine rd_op (ov_move rfl) ?_
      obtain ⟨i195, w195, m195, ha195⟩ := wri_os (i := x9_) wr194 q194 (by first | omega | (have hk := em_len (by assumption : entry_Matches x2.A x2.Key = y125) (by assumption); omega)) (by first | omega | (have hk := em_len (by assumption : entry_Matches x2.A x2.Key = y125) (by assumption); omega))
      subst ha195
      have hn195 : x2.Key.length = m195 := by rw [mem_osn M194 (k := 0) rfl, All2.length_eq q194]
      have h0_196 : 0 ≤ x9_ := (by first | omega | (have hk := em_len (by assumption : entry_Matches x2.A x2.Key = y125) (by assumption); omega))
      have h1_196 : x9_ < (x2.Key.length : Int) := (by first | omega | (have hk := em_len (by assumption : entry_Matches x2.A x2.Key = y125) (by assumption); omega))
      refine rd_op (ov_iaddr rfl rfl (n_idx 1 h0_196 (by omega))) ?_
      obtain ⟨v197, e197, r197⟩ := elem_at (i := x9_) q194 h0_196 h1_196
      have r197 : v197 = vu32 (ix x2.Key x9_) := r197; subst r197
      refine rd_op (ov_elem (k := 0) M194 rfl rfl e197 rfl) ?_
      refine rd_op (ov_move rfl) ?_
      refine rd_op (ov_bin (a := vu32 1#32) (b := vi x10_) rfl rfl (w_shl (by first | omega | (rw [wr_of (by omega) (by omega)]; omega)))) ?_
      refine rd_op (ov_bin (a := vu32 (ix x2.Key x9_)) (b := vu32 (1#32 <<< x10_.toNat)) rfl rfl w_xor) ?_
      have h0_198 : 0 ≤ x9_ := (by first | omega | (have hk := em_len (by assumption : entry_Matches x2.A x2.Key = y125) (by assumption); omega))
      have h1_198 : x9_ < (x2.Key.length : Int) := (by first | omega | (have hk := em_len (by assumption : entry_Matches x2.A x2.Key = y125) (by assumption); omega))
      refine rd_op (ov_iaddr rfl rfl (n_idx 1 h0_198 (by omega))) ?_
      refine rd_setO (k := 0) (v := vu32 ((ix x2.Key x9_) ^^^ (1#32 <<< x10_.toNat))) M194 rfl rfl rfl (by rw [All2.length_eq q194]; omega) rfl (fun h199 M199 => ?_)
      have q199 := All2.set (i := (x9_).toNat) q194 (show tU32.R ((ix x2.Key x9_) ^^^ (1#32 <<< x10_.toNat)) (vu32 ((ix x2.Key x9_) ^^^ (1#32 <<< x10_.toNat))) from rfl)
      have hl199 : (x2.Key.set (x9_).toNat ((ix x2.Key x9_) ^^^ (1#32 <<< x10_.toNat))).length ≤ 4611686018427387904 := by simp only [List.length_set]; exact hl194
      have hn199 : (x2.Key.set (x9_).toNat ((ix x2.Key x9_) ^^^ (1#32 <<< x10_.toNat))).length = m195 := by simp only [List.length_set]; exact hn195
      refine rd_nil ?_
      refine pn_seq ?_
      refine rc_seq ?_
      refine rc_region ?_
      refine rd_op (ov_load0 (k := 2) M199 rfl rfl (TR.agg api_Entry.t r101)) ?_
      refine rd_op (ov_move rfl) ?_
      obtain ⟨v201, d201, r201⟩ := own_sl (P := Try.prog) (k := 0) (t := tU32) M199 rfl rfl q199 (Nat.le_trans hl199 (by decide))
      obtain ⟨y200, hw200, hres⟩ := let_ex hres
      have f200 := f36_ok  r101 r201 
      rw [hw200] at f200
      refine rd_call (cv_lend rfl rfl (dl_cons (deep_closed (TR.clo api_Entry.t r101)) (dl_cons d201 dl_nil)) f200 rfl) ?_
      refine rd_op (ov_faddrO rfl) ?_
      obtain ⟨v202, e202, r202⟩ := api_Entry.g_Keys r101
      refine rd_op (ov_loadf (k := 2) M199 rfl rfl e202) ?_
      refine rd_op (ov_move rfl) ?_
      obtain ⟨v203, e203, r203⟩ := sl_idx (i := x9_) r202 (by first | omega | (have hk := em_len (by assumption : entry_Matches x2.A x2.Key = y125) (by assumption); omega)) (by first | omega | (have hk := em_len (by assumption : entry_Matches x2.A x2.Key = y125) (by assumption); omega))
      refine rd_op (ov_iaddr rfl rfl e203) ?_
      refine rd_op (ov_faddr rfl (api_KeyMatch.g_Mask r203)) ?_
      refine rd_op (ov_load rfl rfl rfl) ?_
      refine rd_op (ov_move rfl) ?_
      refine rd_op (ov_bin (a := vu32 ((ix x2.A.Keys x9_).Mask)) (b := vi x10_) rfl rfl (w_shr (by first | omega | (rw [wr_of (by omega) (by omega)]; omega)))) ?_
      refine rd_op (ov_bin (a := vu32 (((ix x2.A.Keys x9_).Mask) >>> x10_.toNat)) (b := vu32 2#32) rfl rfl (w_rem (by decide))) ?_
      refine rd_op (ov_bin (a := vu32 ((((ix x2.A.Keys x9_).Mask) >>> x10_.toNat) % 2#32)) (b := vu32 0#32) rfl rfl w_eql) ?_
      refine rd_op (ov_bin rfl rfl (bin_neqb (by rw [Try.underlying4]; rfl))) ?_
      refine rd_nil ?_
      refine pn_seq ?_
      refine rc_cond rfl (fun hc204 => ?_) (fun hc204 => ?_)
      · replace hres := (ite_t hc204).symm.trans hres
        have hc204' := hc204
        try simp only [Bool.or_eq_true, Bool.or_eq_false_iff, Bool.and_eq_true, Bool.and_eq_false_imp, decide_eq_true_eq, decide_eq_false_iff_not, Bool.not_eq_true', Bool.not_eq_false', Bool.not_eq_true, Bool.not_eq_false, Bool.not_true, Bool.not_false, ne_eq] at hc204'
        refine rc_seq ?_
        refine rc_region ?_
        refine rd_op (v := vb false) (ov_move rfl) ?_
        refine rd_nil ?_
        refine pn_seq ?_
        subst hres
        exact rc_retV (.tmp rfl .nil) (deep_closed rfl) rfl
      · replace hres := (ite_f hc204).symm.trans hres
        have hc204' := hc204
        try simp only [Bool.or_eq_true, Bool.or_eq_false_iff, Bool.and_eq_true, Bool.and_eq_false_imp, decide_eq_true_eq, decide_eq_false_iff_not, Bool.not_eq_true', Bool.not_eq_false', Bool.not_eq_true, Bool.not_eq_false, Bool.not_true, Bool.not_false, ne_eq] at hc204'
        refine rc_skip ?_
        refine pn_blk ?_
        refine pn_seq ?_
        refine rc_region ?_
        refine rd_op (ov_move rfl) ?_
        refine rd_op (ov_bin rfl rfl i_add) ?_
        refine rd_op (ov_move rfl) ?_
        refine rd_nil ?_
        refine pn_again ?_
        have hinc : wr (x10_ + 1) = x10_ + 1 := wr_of (by omega) (by omega)
        rw [hinc]
        refine rc_weak ?_ (ih (x10_ + 1)  (by omega) (by omega) _ (Mem.sub M199 (.cons _ (.cons_cons _ (.cons_cons _ .slnil)))) hres)
        exact ((sub_cons rfl (sub_cons rfl (sub_cons rfl (sub_cons rfl (sub_cons rfl (sub_cons rfl (sub_cons rfl (sub_nil _)))))))))
    · exfalso
      try simp only [Bool.or_eq_true, Bool.or_eq_false_iff, Bool.and_eq_true, Bool.and_eq_false_imp, decide_eq_true_eq, decide_eq_false_iff_not, Bool.not_eq_true', Bool.not_eq_false', Bool.not_eq_true, Bool.not_eq_false, Bool.not_true, Bool.not_false, ne_eq] at hc189
      omega

theorem law23_EntryExact_L2_ok {S : List Fr} {res : Bool} {x0 : api_Program} {x1 : Int} {x2 : law23_Pair} {y109 : Bool} {y119 : Bool} {y125 : Bool} {v0 : PV} {v2 : PV} {v101 : PV} {v102 : PV} {i103 : Nat} {w103 : Nat} {i105 : Nat} {w105 : Nat} (r2 : law23_Pair.t.R x2 v2) (r101 : api_Entry.t.R x2.A v101) (hw109 : law17_Small x0 = y109) (hc116 : ((((!y109) || (!(law23_Small x2.A))) || (!(law23_Small x2.B))) || (decide (10 < (x2.Key.length : Int)))) = false) (hw119 : entry_Matches x2.A x2.Key = y119) (hc123 : (y119 && (!decide ((x2.Key.length : Int) = (x2.A.Keys.length : Int)))) = false) (hw125 : entry_Matches x2.A x2.Key = y125) (hc183 : y125 = true) {K0 : Unit → Bool}
    (hK0 : ∀ (h : Heap) (M0 : Mem h [⟨.op i105 w105 0, 69, 4, [v102]⟩, ⟨.op i103 w103 0, 69, 4, [v101]⟩]), K0 () = res → PX Try.prog 0 S (QR Try.prog [(6, none)] (RF13 res)) [(1, vi x1), (3, .fp v0), (5, .fp v2), (7, .op i103 w103 0), (8, .op i105 w105 0)] h) :
    ∀ (m : Nat) (x9_ : Int) (hm2 : m = Int.toNat ((x2.Key.length : Int) - x9_)) (hlo2 : 0 ≤ x9_) (h : Heap) (M0 : Mem h [⟨.op i105 w105 0, 69, 4, [v102]⟩, ⟨.op i103 w103 0, 69, 4, [v101]⟩]), law23_EntryExact_L2 x2 K0 m x9_ = res → RC Try.prog (.loop ac13_L1) S (QR Try.prog [(6, none)] (RF13 res)) [(9, vi x9_), (8, .op i105 w105 0), (7, .op i103 w103 0), (5, .fp v2), (3, .fp v0), (1, vi x1)] h := by
  have hc116' := hc116
  try simp only [Bool.or_eq_true, Bool.or_eq_false_iff, Bool.and_eq_true, Bool.and_eq_false_imp, decide_eq_true_eq, decide_eq_false_iff_not, Bool.not_eq_true', Bool.not_eq_false', Bool.not_eq_true, Bool.not_eq_false, Bool.not_true, Bool.not_false, ne_eq] at hc116'
  have hc123' := hc123
  try simp only [Bool.or_eq_true, Bool.or_eq_false_iff, Bool.and_eq_true, Bool.and_eq_false_imp, decide_eq_true_eq, decide_eq_false_iff_not, Bool.not_eq_true', Bool.not_eq_false', Bool.not_eq_true, Bool.not_eq_false, Bool.not_true, Bool.not_false, ne_eq] at hc123'
  have hc183' := hc183
  try simp only [Bool.or_eq_true, Bool.or_eq_false_iff, Bool.and_eq_true, Bool.and_eq_false_imp, decide_eq_true_eq, decide_eq_false_iff_not, Bool.not_eq_true', Bool.not_eq_false', Bool.not_eq_true, Bool.not_eq_false, Bool.not_true, Bool.not_false, ne_eq] at hc183'
  intro m
  induction m with
  | zero =>
    intro x9_ hm2 hlo2 h M0 hres
    rw [law23_EntryExact_L2] at hres
    refine rc_loop ?_
    unfold ac13_L1
    refine rc_seq ?_
    refine rc_seq ?_
    refine rc_region ?_
    refine rd_op (ov_move rfl) ?_
    obtain ⟨v184, e184, r184⟩ := law23_Pair.g_Key r2
    refine rd_op (ov_faddr rfl e184) ?_
    refine rd_op (ov_load rfl (TR.cnt (tSl tU32) r184) (TR.agg (tSl tU32) r184)) ?_
    refine rd_op (ov_bi rfl (sl_len r184 Try.underlying44 _)) ?_
    refine rd_op (ov_bin rfl rfl i_lss) ?_
    refine rd_nil ?_
    refine pn_seq ?_
    refine rc_cond rfl (fun hc185 => ?_) (fun hc185 => ?_)
    · exfalso
      try simp only [Bool.or_eq_true, Bool.or_eq_false_iff, Bool.and_eq_true, Bool.and_eq_false_imp, decide_eq_true_eq, decide_eq_false_iff_not, Bool.not_eq_true', Bool.not_eq_false', Bool.not_eq_true, Bool.not_eq_false, Bool.not_true, Bool.not_false, ne_eq] at hc185
      omega
    · have hend := hres
      have hc185' := hc185
      try simp only [Bool.or_eq_true, Bool.or_eq_false_iff, Bool.and_eq_true, Bool.and_eq_false_imp, decide_eq_true_eq, decide_eq_false_iff_not, Bool.not_eq_true', Bool.not_eq_false', Bool.not_eq_true, Bool.not_eq_false, Bool.not_true, Bool.not_false, ne_eq] at hc185'
      refine rc_exit ?_
      refine px_seq ?_
      refine px_again ?_
      exact px_weak ((sub_cons rfl (sub_cons rfl (sub_cons rfl (sub_cons rfl (sub_cons rfl (sub_nil _))))))) (hK0 _ (Mem.sub M0 (.cons_cons _ (.cons_cons _ .slnil))) hres)
  | succ m ih =>
    intro x9_ hm2 hlo2 h M0 hres
    rw [law23_EntryExact_L2] at hres
    refine rc_loop ?_
    unfold ac13_L1
    refine rc_seq ?_
    refine rc_seq ?_
    refine rc_region ?_
    refine rd_op (ov_move rfl) ?_
    obtain ⟨v186, e186, r186⟩ := law23_Pair.g_Key r2
    refine rd_op (ov_faddr rfl e186) ?_
    refine rd_op (ov_load rfl (TR.cnt (tSl tU32) r186) (TR.agg (tSl tU32) r186)) ?_
    refine rd_op (ov_bi rfl (sl_len r186 Try.underlying44 _)) ?_
    refine rd_op (ov_bin rfl rfl i_lss) ?_
    refine rd_nil ?_
    refine pn_seq ?_
    refine rc_cond rfl (fun hc187 => ?_) (fun hc187 => ?_)
    · have hgo := hres
      have hc187' := hc187
      try simp only [Bool.or_eq_true, Bool.or_eq_false_iff, Bool.and_eq_true, Bool.and_eq_false_imp, decide_eq_true_eq, decide_eq_false_iff_not, Bool.not_eq_true', Bool.not_eq_false', Bool.not_eq_true, Bool.not_eq_false, Bool.not_true, Bool.not_false, ne_eq] at hc187'
      refine rc_skip ?_
      refine pn_seq ?_
      refine rc_seq ?_
      refine rc_block ?_
      refine rc_seq ?_
      refine rc_region ?_
      refine rd_op (v := vi 0) (ov_move rfl) ?_
      refine rd_nil ?_
      refine pn_seq ?_
      refine rc_block ?_
      refine rc_weak ?_ (law23_EntryExact_L3_ok (x0 := x0) (x1 := x1) (x2 := x2) (y109 := y109) (y119 := y119) (y125 := y125) (x9_ := x9_) (v0 := v0) (v2 := v2) (v101 := v101) (v102 := v102) (i103 := i103) (w103 := w103) (i105 := i105) (w105 := w105) (r2 := r2) (r101 := r101) (hw109 := hw109) (hc116 := hc116) (hw119 := hw119) (hc123 := hc123) (hw125 := hw125) (hc183 := hc183) (hlo2 := hlo2) (hc187 := hc187) ?_ (Int.toNat (32 - 0)) 0 rfl (by omega) _ (Mem.sub M0 (.cons_cons _ (.cons_cons _ .slnil))) hres)
      · exact ((sub_cons rfl (sub_cons rfl (sub_cons rfl (sub_cons rfl (sub_cons rfl (sub_cons rfl (sub_cons rfl (sub_nil _)))))))))
      · intro h205 M205 hres
        refine px_blk ?_
        refine pn_blk ?_
        refine pn_seq ?_
        refine rc_region ?_
        refine rd_op (ov_move rfl) ?_
        refine rd_op (ov_bin rfl rfl i_add) ?_
        refine rd_op (ov_move rfl) ?_
        refine rd_nil ?_
        refine pn_again ?_
        have hbd := sl_bound r186
        have hinc : wr (x9_ + 1) = x9_ + 1 := wr_of (by omega) (by omega)
        rw [hinc]
        refine rc_weak ?_ (ih (x9_ + 1)  (by omega) (by omega) _ (Mem.sub M205 (.cons_cons _ (.cons_cons _ .slnil))) hres)
        exact ((sub_cons rfl (sub_cons rfl (sub_cons rfl (sub_cons rfl (sub_cons rfl (sub_cons rfl (sub_nil _))))))))
    · exfalso
      try simp only [Bool.or_eq_true, Bool.or_eq_false_iff, Bool.and_eq_true, Bool.and_eq_false_imp, decide_eq_true_eq, decide_eq_false_iff_not, Bool.not_eq_true', Bool.not_eq_false', Bool.not_eq_true, Bool.not_eq_false, Bool.not_true, Bool.not_false, ne_eq] at hc187
      omega

theorem f13_ok {x0 : api_Program} {x1 : Int} {x2 : law23_Pair} {v0 v2 : PV} (r0 : api_Program.t.R x0 v0) (r2 : law23_Pair.t.R x2 v2) : FnR Try.prog 13 [v0, vi x1, v2] (vb (law23_EntryExact x0 x1 x2)) := by
  obtain ⟨res, hres⟩ : ∃ res, law23_EntryExact x0 x1 x2 = res := ⟨_, rfl⟩
  suffices H : RC Try.prog ac13 [] (QR Try.prog [(6, none)] (RF13 res)) (argE 0 [v0, vi x1, v2]) ⟨0, []⟩ by
    obtain ⟨r, h1, h2⟩ := fnE text13 (by simp) H
    rw [hres]
    have h2 : r = vb res := h2
    rw [← h2]; exact h1
  unfold law23_EntryExact at hres
  unfold ac13
  refine rc_seq ?_
  refine rc_region ?_
  refine rd_op (ov_box rfl (TR.cnt api_Program.t r0)) ?_
  refine rd_op (ov_box rfl (TR.cnt law23_Pair.t r2)) ?_
  refine rd_op (v := vb false) (ov_move rfl) ?_
  refine rd_nil ?_
  refine pn_seq ?_
  refine rc_seq ?_
  refine rc_region ?_
  obtain ⟨v101, e101, r101⟩ := law23_Pair.g_A r2
  refine rd_op (ov_faddr rfl e101) ?_
  refine rd_op (ov_load rfl (TR.cnt api_Entry.t r101) (TR.agg api_Entry.t r101)) ?_
  obtain ⟨v102, e102, r102⟩ := law23_Pair.g_B r2
  refine rd_op (ov_faddr rfl e102) ?_
  refine rd_op (ov_load rfl (TR.cnt api_Entry.t r102) (TR.agg api_Entry.t r102)) ?_
  refine rd_allocO (x := .agg [nilS, vi 0, vi 0, nilS]) (Mem.nil ⟨0, []⟩) rfl rfl (fun i103 w103 h103 M103 => ?_)
  refine rd_allocO (x := .agg [nilS, vi 0, vi 0, nilS]) M103 rfl rfl (fun i105 w105 h105 M105 => ?_)
  refine rd_storeO (k := 1) (v := v101) M105 rfl rfl rfl (TR.cnt api_Entry.t r101) (fun h107 M107 => ?_)
  replace M107 : Mem h107 [⟨.op i105 w105 0, 69, 4, [.agg [nilS, vi 0, vi 0, nilS]]⟩, ⟨.op i103 w103 0, 69, 4, [v101]⟩] := M107
  refine rd_storeO (k := 0) (v := v102) M107 rfl rfl rfl (TR.cnt api_Entry.t r102) (fun h108 M108 => ?_)
  replace M108 : Mem h108 [⟨.op i105 w105 0, 69, 4, [v102]⟩, ⟨.op i103 w103 0, 69, 4, [v101]⟩] := M108
  refine rd_nil ?_
  refine pn_seq ?_
  refine rc_seq ?_
  refine rc_seq ?_
  refine rc_region ?_
  refine rd_op (ov_load rfl (TR.cnt api_Program.t r0) (TR.agg api_Program.t r0)) ?_
  obtain ⟨y109, hw109, hres⟩ := let_ex hres
  have f109 := f14_ok  r0 
  rw [hw109] at f109
  refine rd_call (cv_fn rfl rfl (clL_cons (TR.clo api_Program.t r0) clL_nil) f109) ?_
  refine rd_op (ov_not rfl) ?_
  refine rd_op (ov_move rfl) ?_
  refine rd_cut (d := 24) (v := vb ((!y109) || (!(law23_Small x2.A)))) ?_ ?_
  · intro S Q r
    simp only [ac13_G1, List.cons_append, List.nil_append, List.append_assoc]
    cases hb110 : (!y109)
    · intro k
      have hb110' := hb110
      try simp only [Bool.or_eq_true, Bool.or_eq_false_iff, Bool.and_eq_true, Bool.and_eq_false_imp, decide_eq_true_eq, decide_eq_false_iff_not, Bool.not_eq_true', Bool.not_eq_false', Bool.not_eq_true, Bool.not_eq_false, Bool.not_true, Bool.not_false, ne_eq] at hb110'
      refine rd_yes rfl rfl (ov_load0 (k := 1) M108 rfl rfl (TR.agg api_Entry.t r101)) ?_
      have f111 := f32_ok  r101 
      refine rd_ycall rfl rfl (cv_fn rfl rfl (clL_cons (TR.clo api_Entry.t r101) clL_nil) f111) ?_
      refine rd_yes rfl rfl (ov_not rfl) ?_
      refine rd_op (v := vb (!(law23_Small x2.A))) (ov_pick rfl rfl rfl rfl) ?_
      exact rd_weak (sub_cons rfl (sub_skip rfl (sub_skip rfl (sub_skip rfl (sub_skip rfl (sub_refl _)))))) k
    · intro k
      refine rd_skip rfl rfl ?_
      refine rd_skip rfl rfl ?_
      refine rd_skip rfl rfl ?_
      refine rd_op (v := vb true) (ov_pick rfl rfl rfl rfl) ?_
      exact rd_weak (sub_cons rfl (sub_skip rfl (sub_skip rfl (sub_skip rfl (sub_skip rfl (sub_refl _)))))) k
  refine rd_op (ov_move rfl) ?_
  refine rd_cut (d := 29) (v := vb (((!y109) || (!(law23_Small x2.A))) || (!(law23_Small x2.B)))) ?_ ?_
  · intro S Q r
    simp only [ac13_G2, List.cons_append, List.nil_append, List.append_assoc]
    cases hb112 : ((!y109) || (!(law23_Small x2.A)))
    · intro k
      have hb112' := hb112
      try simp only [Bool.or_eq_true, Bool.or_eq_false_iff, Bool.and_eq_true, Bool.and_eq_false_imp, decide_eq_true_eq, decide_eq_false_iff_not, Bool.not_eq_true', Bool.not_eq_false', Bool.not_eq_true, Bool.not_eq_false, Bool.not_true, Bool.not_false, ne_eq] at hb112'
      refine rd_yes rfl rfl (ov_load0 (k := 0) M108 rfl rfl (TR.agg api_Entry.t r102)) ?_
      have f113 := f32_ok  r102 
      refine rd_ycall rfl rfl (cv_fn rfl rfl (clL_cons (TR.clo api_Entry.t r102) clL_nil) f113) ?_
      refine rd_yes rfl rfl (ov_not rfl) ?_
      refine rd_op (v := vb (!(law23_Small x2.B))) (ov_pick rfl rfl rfl rfl) ?_
      exact rd_weak (sub_cons rfl (sub_skip rfl (sub_skip rfl (sub_skip rfl (sub_skip rfl (sub_refl _)))))) k
    · intro k
      refine rd_skip rfl rfl ?_
      refine rd_skip rfl rfl ?_
      refine rd_skip rfl rfl ?_
      refine rd_op (v := vb true) (ov_pick rfl rfl rfl rfl) ?_
      exact rd_weak (sub_cons rfl (sub_skip rfl (sub_skip rfl (sub_skip rfl (sub_skip rfl (sub_refl _)))))) k
  refine rd_op (ov_move rfl) ?_
  refine rd_cut (d := 35) (v := vb ((((!y109) || (!(law23_Small x2.A))) || (!(law23_Small x2.B))) || (decide (10 < (x2.Key.length : Int))))) ?_ ?_
  · intro S Q r
    simp only [ac13_G3, List.cons_append, List.nil_append, List.append_assoc]
    cases hb114 : (((!y109) || (!(law23_Small x2.A))) || (!(law23_Small x2.B)))
    · intro k
      have hb114' := hb114
      try simp only [Bool.or_eq_true, Bool.or_eq_false_iff, Bool.and_eq_true, Bool.and_eq_false_imp, decide_eq_true_eq, decide_eq_false_iff_not, Bool.not_eq_true', Bool.not_eq_false', Bool.not_eq_true, Bool.not_eq_false, Bool.not_true, Bool.not_false, ne_eq] at hb114'
      obtain ⟨v115, e115, r115⟩ := law23_Pair.g_Key r2
      refine rd_yes rfl rfl (ov_faddr rfl e115) ?_
      refine rd_yes rfl rfl (ov_load rfl (TR.cnt (tSl tU32) r115) (TR.agg (tSl tU32) r115)) ?_
      refine rd_yes rfl rfl (ov_bi rfl (sl_len r115 Try.underlying44 _)) ?_
      refine rd_yes rfl rfl (ov_bin rfl rfl i_gtr) ?_
      refine rd_op (v := vb (decide (10 < (x2.Key.length : Int)))) (ov_pick rfl rfl rfl rfl) ?_
      exact rd_weak (sub_cons rfl (sub_skip rfl (sub_skip rfl (sub_skip rfl (sub_skip rfl (sub_skip rfl (sub_refl _))))))) k
    · intro k
      refine rd_skip rfl rfl ?_
      refine rd_skip rfl rfl ?_
      refine rd_skip rfl rfl ?_
      refine rd_skip rfl rfl ?_
      refine rd_op (v := vb true) (ov_pick rfl rfl rfl rfl) ?_
      exact rd_weak (sub_cons rfl (sub_skip rfl (sub_skip rfl (sub_skip rfl (sub_skip rfl (sub_skip rfl (sub_refl _))))))) k
  refine rd_nil ?_
  refine pn_seq ?_
  refine rc_cond rfl (fun hc116 => ?_) (fun hc116 => ?_)
  · replace hres := (ite_t hc116).symm.trans hres
    have hc116' := hc116
    try simp only [Bool.or_eq_true, Bool.or_eq_false_iff, Bool.and_eq_true, Bool.and_eq_false_imp, decide_eq_true_eq, decide_eq_false_iff_not, Bool.not_eq_true', Bool.not_eq_false', Bool.not_eq_true, Bool.not_eq_false, Bool.not_true, Bool.not_false, ne_eq] at hc116'
    refine rc_seq ?_
    refine rc_region ?_
    obtain ⟨y117, hw117, hres⟩ := let_ex hres
    have f117 := f33_ok   
    rw [hw117] at f117
    refine rd_call (cv_fn rfl rfl clL_nil f117) ?_
    refine rd_op (ov_move rfl) ?_
    refine rd_nil ?_
    refine pn_seq ?_
    subst hres
    exact rc_retV (.tmp rfl .nil) (deep_closed rfl) rfl
  · replace hres := (ite_f hc116).symm.trans hres
    have hc116' := hc116
    try simp only [Bool.or_eq_true, Bool.or_eq_false_iff, Bool.and_eq_true, Bool.and_eq_false_imp, decide_eq_true_eq, decide_eq_false_iff_not, Bool.not_eq_true', Bool.not_eq_false', Bool.not_eq_true, Bool.not_eq_false, Bool.not_true, Bool.not_false, ne_eq] at hc116'
    refine rc_skip ?_
    refine pn_seq ?_
    refine rc_seq ?_
    refine rc_seq ?_
    refine rc_region ?_
    refine rd_op (ov_load0 (k := 1) M108 rfl rfl (TR.agg api_Entry.t r101)) ?_
    obtain ⟨v118, e118, r118⟩ := law23_Pair.g_Key r2
    refine rd_op (ov_faddr rfl e118) ?_
    refine rd_op (ov_load rfl (TR.cnt (tSl tU32) r118) (TR.agg (tSl tU32) r118)) ?_
    obtain ⟨y119, hw119, hres⟩ := let_ex hres
    have f119 := f36_ok  r101 r118 
    rw [hw119] at f119
    refine rd_call (cv_fn rfl rfl (clL_cons (TR.clo api_Entry.t r101) (clL_cons (TR.clo (tSl tU32) r118) clL_nil)) f119) ?_
    refine rd_op (ov_move rfl) ?_
    refine rd_cut (d := 49) (v := vb (y119 && (!decide ((x2.Key.length : Int) = (x2.A.Keys.length : Int))))) ?_ ?_
    · intro S Q r
      simp only [ac13_G4, List.cons_append, List.nil_append, List.append_assoc]
      cases hb120 : y119
      · intro k
        refine rd_skip rfl rfl ?_
        refine rd_skip rfl rfl ?_
        refine rd_skip rfl rfl ?_
        refine rd_skip rfl rfl ?_
        refine rd_skip rfl rfl ?_
        refine rd_skip rfl rfl ?_
        refine rd_skip rfl rfl ?_
        refine rd_op (v := vb false) (ov_pick rfl rfl rfl rfl) ?_
        exact rd_weak (sub_cons rfl (sub_skip rfl (sub_skip rfl (sub_skip rfl (sub_skip rfl (sub_skip rfl (sub_skip rfl (sub_skip rfl (sub_skip rfl (sub_refl _)))))))))) k
      · intro k
        have hb120' := hb120
        try simp only [Bool.or_eq_true, Bool.or_eq_false_iff, Bool.and_eq_true, Bool.and_eq_false_imp, decide_eq_true_eq, decide_eq_false_iff_not, Bool.not_eq_true', Bool.not_eq_false', Bool.not_eq_true, Bool.not_eq_false, Bool.not_true, Bool.not_false, ne_eq] at hb120'
        obtain ⟨v121, e121, r121⟩ := law23_Pair.g_Key r2
        refine rd_yes rfl rfl (ov_faddr rfl e121) ?_
        refine rd_yes rfl rfl (ov_load rfl (TR.cnt (tSl tU32) r121) (TR.agg (tSl tU32) r121)) ?_
        refine rd_yes rfl rfl (ov_bi rfl (sl_len r121 Try.underlying44 _)) ?_
        refine rd_yes rfl rfl (ov_faddrO rfl) ?_
        obtain ⟨v122, e122, r122⟩ := api_Entry.g_Keys r101
        refine rd_yes rfl rfl (ov_loadf (k := 1) M108 rfl rfl e122) ?_
        refine rd_yes rfl rfl (ov_bi rfl (sl_len r122 Try.underlying67 _)) ?_
        refine rd_yes rfl rfl (ov_bin rfl rfl i_neq) ?_
        refine rd_op (v := vb (!decide ((x2.Key.length : Int) = (x2.A.Keys.length : Int)))) (ov_pick rfl rfl rfl rfl) ?_
        exact rd_weak (sub_cons rfl (sub_skip rfl (sub_skip rfl (sub_skip rfl (sub_skip rfl (sub_skip rfl (sub_skip rfl (sub_skip rfl (sub_skip rfl (sub_refl _)))))))))) k
    refine rd_nil ?_
    refine pn_seq ?_
    refine rc_cond rfl (fun hc123 => ?_) (fun hc123 => ?_)
    · replace hres := (ite_t hc123).symm.trans hres
      have hc123' := hc123
      try simp only [Bool.or_eq_true, Bool.or_eq_false_iff, Bool.and_eq_true, Bool.and_eq_false_imp, decide_eq_true_eq, decide_eq_false_iff_not, Bool.not_eq_true', Bool.not_eq_false', Bool.not_eq_true, Bool.not_eq_false, Bool.not_true, Bool.not_false, ne_eq] at hc123'
      refine rc_seq ?_
      refine rc_region ?_
      refine rd_op (v := vb false) (ov_move rfl) ?_
      refine rd_nil ?_
      refine pn_seq ?_
      subst hres
      exact rc_retV (.tmp rfl .nil) (deep_closed rfl) rfl
    · replace hres := (ite_f hc123).symm.trans hres
      have hc123' := hc123
      try simp only [Bool.or_eq_true, Bool.or_eq_false_iff, Bool.and_eq_true, Bool.and_eq_false_imp, decide_eq_true_eq, decide_eq_false_iff_not, Bool.not_eq_true', Bool.not_eq_false', Bool.not_eq_true, Bool.not_eq_false, Bool.not_true, Bool.not_false, ne_eq] at hc123'
      refine rc_skip ?_
      refine pn_seq ?_
      refine rc_seq ?_
      refine rc_seq ?_
      refine rc_region ?_
      refine rd_op (ov_load0 (k := 1) M108 rfl rfl (TR.agg api_Entry.t r101)) ?_
      obtain ⟨v124, e124, r124⟩ := law23_Pair.g_Key r2
      refine rd_op (ov_faddr rfl e124) ?_
      refine rd_op (ov_load rfl (TR.cnt (tSl tU32) r124) (TR.agg (tSl tU32) r124)) ?_
      obtain ⟨y125, hw125, hres⟩ := let_ex hres
      have f125 := f36_ok  r101 r124 
      rw [hw125] at f125
      refine rd_call (cv_fn rfl rfl (clL_cons (TR.clo api_Entry.t r101) (clL_cons (TR.clo (tSl tU32) r124) clL_nil)) f125) ?_
      refine rd_nil ?_
      refine pn_seq ?_
      obtain ⟨k150, hk150, hres⟩ := let_ex hres
      refine rc_join (F := fun b S Q => ∀ (hj150 : Heap) (Mj150 : Mem hj150 [⟨.op i105 w105 0, 69, 4, [v102]⟩, ⟨.op i103 w103 0, 69, 4, [v101]⟩]), k150 () = res → RC Try.prog b S Q [(8, .op i105 w105 0), (7, .op i103 w103 0), (5, .fp v2), (3, .fp v0), (1, vi x1)] hj150) ?_ ?_
      · intro  hj150 Mj150 hres
        rw [← hk150] at hres
        refine rc_seq ?_
        refine rc_seq ?_
        refine rc_region ?_
        refine rd_op (ov_move rfl) ?_
        refine rd_op (ov_bin rfl rfl i_lss) ?_
        refine rd_op (ov_move rfl) ?_
        refine rd_cut (d := 99) (v := vb ((decide (x1 < 0)) || (decide ((x0.Tables.length : Int) ≤ x1)))) ?_ ?_
        · intro S Q r
          simp only [ac13_G5, List.cons_append, List.nil_append, List.append_assoc]
          cases hb151 : (decide (x1 < 0))
          · intro k
            have hb151' := hb151
            try simp only [Bool.or_eq_true, Bool.or_eq_false_iff, Bool.and_eq_true, Bool.and_eq_false_imp, decide_eq_true_eq, decide_eq_false_iff_not, Bool.not_eq_true', Bool.not_eq_false', Bool.not_eq_true, Bool.not_eq_false, Bool.not_true, Bool.not_false, ne_eq] at hb151'
            refine rd_yes rfl rfl (ov_move rfl) ?_
            obtain ⟨v152, e152, r152⟩ := api_Program.g_Tables r0
            refine rd_yes rfl rfl (ov_faddr rfl e152) ?_
            refine rd_yes rfl rfl (ov_load rfl (TR.cnt (tSl api_Table.t) r152) (TR.agg (tSl api_Table.t) r152)) ?_
            refine rd_yes rfl rfl (ov_bi rfl (sl_len r152 Try.underlying26 _)) ?_
            refine rd_yes rfl rfl (ov_bin rfl rfl i_geq) ?_
            refine rd_op (v := vb (decide ((x0.Tables.length : Int) ≤ x1))) (ov_pick rfl rfl rfl rfl) ?_
            exact rd_weak (sub_cons rfl (sub_skip rfl (sub_skip rfl (sub_skip rfl (sub_skip rfl (sub_skip rfl (sub_skip rfl (sub_refl _)))))))) k
          · intro k
            refine rd_skip rfl rfl ?_
            refine rd_skip rfl rfl ?_
            refine rd_skip rfl rfl ?_
            refine rd_skip rfl rfl ?_
            refine rd_skip rfl rfl ?_
            refine rd_op (v := vb true) (ov_pick rfl rfl rfl rfl) ?_
            exact rd_weak (sub_cons rfl (sub_skip rfl (sub_skip rfl (sub_skip rfl (sub_skip rfl (sub_skip rfl (sub_skip rfl (sub_refl _)))))))) k
        refine rd_op (ov_move rfl) ?_
        refine rd_cut (d := 106) (v := vb (((decide (x1 < 0)) || (decide ((x0.Tables.length : Int) ≤ x1))) || (!decide ((entry_Check x0 x1 x2.A) = 0)))) ?_ ?_
        · intro S Q r
          simp only [ac13_G6, List.cons_append, List.nil_append, List.append_assoc]
          cases hb153 : ((decide (x1 < 0)) || (decide ((x0.Tables.length : Int) ≤ x1)))
          · intro k
            have hb153' := hb153
            try simp only [Bool.or_eq_true, Bool.or_eq_false_iff, Bool.and_eq_true, Bool.and_eq_false_imp, decide_eq_true_eq, decide_eq_false_iff_not, Bool.not_eq_true', Bool.not_eq_false', Bool.not_eq_true, Bool.not_eq_false, Bool.not_true, Bool.not_false, ne_eq] at hb153'
            refine rd_yes rfl rfl (ov_load rfl (TR.cnt api_Program.t r0) (TR.agg api_Program.t r0)) ?_
            refine rd_yes rfl rfl (ov_move rfl) ?_
            refine rd_yes rfl rfl (ov_load0 (k := 1) Mj150 rfl rfl (TR.agg api_Entry.t r101)) ?_
            have f154 := f34_ok (x1 := x1) r0 r101 
            refine rd_ycall rfl rfl (cv_fn rfl rfl (clL_cons (TR.clo api_Program.t r0) (clL_cons rfl (clL_cons (TR.clo api_Entry.t r101) clL_nil))) f154) ?_
            refine rd_yes rfl rfl (ov_bin rfl rfl i_neq) ?_
            refine rd_op (v := vb (!decide ((entry_Check x0 x1 x2.A) = 0))) (ov_pick rfl rfl rfl rfl) ?_
            exact rd_weak (sub_cons rfl (sub_skip rfl (sub_skip rfl (sub_skip rfl (sub_skip rfl (sub_skip rfl (sub_skip rfl (sub_refl _)))))))) k
          · intro k
            refine rd_skip rfl rfl ?_
            refine rd_skip rfl rfl ?_
            refine rd_skip rfl rfl ?_
            refine rd_skip rfl rfl ?_
            refine rd_skip rfl rfl ?_
            refine rd_op (v := vb true) (ov_pick rfl rfl rfl rfl) ?_
            exact rd_weak (sub_cons rfl (sub_skip rfl (sub_skip rfl (sub_skip rfl (sub_skip rfl (sub_skip rfl (sub_skip rfl (sub_refl _)))))))) k
        refine rd_op (ov_move rfl) ?_
        refine rd_cut (d := 113) (v := vb ((((decide (x1 < 0)) || (decide ((x0.Tables.length : Int) ≤ x1))) || (!decide ((entry_Check x0 x1 x2.A) = 0))) || (!decide ((entry_Check x0 x1 x2.B) = 0)))) ?_ ?_
        · intro S Q r
          simp only [ac13_G7, List.cons_append, List.nil_append, List.append_assoc]
          cases hb155 : (((decide (x1 < 0)) || (decide ((x0.Tables.length : Int) ≤ x1))) || (!decide ((entry_Check x0 x1 x2.A) = 0)))
          · intro k
            have hb155' := hb155
            try simp only [Bool.or_eq_true, Bool.or_eq_false_iff, Bool.and_eq_true, Bool.and_eq_false_imp, decide_eq_true_eq, decide_eq_false_iff_not, Bool.not_eq_true', Bool.not_eq_false', Bool.not_eq_true, Bool.not_eq_false, Bool.not_true, Bool.not_false, ne_eq] at hb155'
            refine rd_yes rfl rfl (ov_load rfl (TR.cnt api_Program.t r0) (TR.agg api_Program.t r0)) ?_
            refine rd_yes rfl rfl (ov_move rfl) ?_
            refine rd_yes rfl rfl (ov_load0 (k := 0) Mj150 rfl rfl (TR.agg api_Entry.t r102)) ?_
            have f156 := f34_ok (x1 := x1) r0 r102 
            refine rd_ycall rfl rfl (cv_fn rfl rfl (clL_cons (TR.clo api_Program.t r0) (clL_cons rfl (clL_cons (TR.clo api_Entry.t r102) clL_nil))) f156) ?_
            refine rd_yes rfl rfl (ov_bin rfl rfl i_neq) ?_
            refine rd_op (v := vb (!decide ((entry_Check x0 x1 x2.B) = 0))) (ov_pick rfl rfl rfl rfl) ?_
            exact rd_weak (sub_cons rfl (sub_skip rfl (sub_skip rfl (sub_skip rfl (sub_skip rfl (sub_skip rfl (sub_skip rfl (sub_refl _)))))))) k
          · intro k
            refine rd_skip rfl rfl ?_
            refine rd_skip rfl rfl ?_
            refine rd_skip rfl rfl ?_
            refine rd_skip rfl rfl ?_
            refine rd_skip rfl rfl ?_
            refine rd_op (v := vb true) (ov_pick rfl rfl rfl rfl) ?_
            exact rd_weak (sub_cons rfl (sub_skip rfl (sub_skip rfl (sub_skip rfl (sub_skip rfl (sub_skip rfl (sub_skip rfl (sub_refl _)))))))) k
        refine rd_nil ?_
        refine pn_seq ?_
        refine rc_cond rfl (fun hc157 => ?_) (fun hc157 => ?_)
        · replace hres := (ite_t hc157).symm.trans hres
          have hc157' := hc157
          try simp only [Bool.or_eq_true, Bool.or_eq_false_iff, Bool.and_eq_true, Bool.and_eq_false_imp, decide_eq_true_eq, decide_eq_false_iff_not, Bool.not_eq_true', Bool.not_eq_false', Bool.not_eq_true, Bool.not_eq_false, Bool.not_true, Bool.not_false, ne_eq] at hc157'
          refine rc_seq ?_
          refine rc_region ?_
          obtain ⟨y158, hw158, hres⟩ := let_ex hres
          have f158 := f33_ok   
          rw [hw158] at f158
          refine rd_call (cv_fn rfl rfl clL_nil f158) ?_
          refine rd_op (ov_move rfl) ?_
          refine rd_nil ?_
          refine pn_seq ?_
          subst hres
          exact rc_retV (.tmp rfl .nil) (deep_closed rfl) rfl
        · replace hres := (ite_f hc157).symm.trans hres
          have hc157' := hc157
          try simp only [Bool.or_eq_true, Bool.or_eq_false_iff, Bool.and_eq_true, Bool.and_eq_false_imp, decide_eq_true_eq, decide_eq_false_iff_not, Bool.not_eq_true', Bool.not_eq_false', Bool.not_eq_true, Bool.not_eq_false, Bool.not_true, Bool.not_false, ne_eq] at hc157'
          refine rc_skip ?_
          refine pn_seq ?_
          refine rc_seq ?_
          refine rc_seq ?_
          refine rc_region ?_
          refine rd_op (v := vi 0) (ov_move rfl) ?_
          refine rd_nil ?_
          refine pn_seq ?_
          refine rc_block ?_
          refine rc_weak ?_ (law23_EntryExact_L1_ok (x0 := x0) (x1 := x1) (x2 := x2) (y109 := y109) (y119 := y119) (y125 := y125) (v0 := v0) (v2 := v2) (v101 := v101) (v102 := v102) (i103 := i103) (w103 := w103) (i105 := i105) (w105 := w105) (r0 := r0) (hw109 := hw109) (hc116 := hc116) (hw119 := hw119) (hc123 := hc123) (hw125 := hw125) (hc157 := hc157) ?_ (Int.toNat ((((ix x0.Tables x1).Keys).length : Int) - 0)) 0 rfl (by omega) _ (Mem.sub Mj150 (.cons_cons _ (.cons_cons _ .slnil))) hres)
          · exact ((sub_cons rfl (sub_cons rfl (sub_cons rfl (sub_cons rfl (sub_cons rfl (sub_cons rfl (sub_nil _))))))))
          · intro h173 M173 hres
            refine px_blk ?_
            refine pn_seq ?_
            refine rc_seq ?_
            refine rc_seq ?_
            refine rc_region ?_
            refine rd_op (ov_load0 (k := 1) M173 rfl rfl (TR.agg api_Entry.t r101)) ?_
            obtain ⟨v174, e174, r174⟩ := law23_Pair.g_Key r2
            refine rd_op (ov_faddr rfl e174) ?_
            refine rd_op (ov_load rfl (TR.cnt (tSl tU32) r174) (TR.agg (tSl tU32) r174)) ?_
            obtain ⟨y175, hw175, hres⟩ := let_ex hres
            have f175 := f36_ok  r101 r174 
            rw [hw175] at f175
            refine rd_call (cv_fn rfl rfl (clL_cons (TR.clo api_Entry.t r101) (clL_cons (TR.clo (tSl tU32) r174) clL_nil)) f175) ?_
            refine rd_op (ov_move rfl) ?_
            refine rd_cut (d := 147) (v := vb (y175 && (entry_Matches x2.B x2.Key))) ?_ ?_
            · intro S Q r
              simp only [ac13_G8, List.cons_append, List.nil_append, List.append_assoc]
              cases hb176 : y175
              · intro k
                refine rd_skip rfl rfl ?_
                refine rd_skip rfl rfl ?_
                refine rd_skip rfl rfl ?_
                refine rd_skip rfl rfl ?_
                refine rd_op (v := vb false) (ov_pick rfl rfl rfl rfl) ?_
                exact rd_weak (sub_cons rfl (sub_skip rfl (sub_skip rfl (sub_skip rfl (sub_skip rfl (sub_skip rfl (sub_refl _))))))) k
              · intro k
                have hb176' := hb176
                try simp only [Bool.or_eq_true, Bool.or_eq_false_iff, Bool.and_eq_true, Bool.and_eq_false_imp, decide_eq_true_eq, decide_eq_false_iff_not, Bool.not_eq_true', Bool.not_eq_false', Bool.not_eq_true, Bool.not_eq_false, Bool.not_true, Bool.not_false, ne_eq] at hb176'
                refine rd_yes rfl rfl (ov_load0 (k := 0) M173 rfl rfl (TR.agg api_Entry.t r102)) ?_
                obtain ⟨v177, e177, r177⟩ := law23_Pair.g_Key r2
                refine rd_yes rfl rfl (ov_faddr rfl e177) ?_
                refine rd_yes rfl rfl (ov_load rfl (TR.cnt (tSl tU32) r177) (TR.agg (tSl tU32) r177)) ?_
                have f178 := f36_ok  r102 r177 
                refine rd_ycall rfl rfl (cv_fn rfl rfl (clL_cons (TR.clo api_Entry.t r102) (clL_cons (TR.clo (tSl tU32) r177) clL_nil)) f178) ?_
                refine rd_op (v := vb (entry_Matches x2.B x2.Key)) (ov_pick rfl rfl rfl rfl) ?_
                exact rd_weak (sub_cons rfl (sub_skip rfl (sub_skip rfl (sub_skip rfl (sub_skip rfl (sub_skip rfl (sub_refl _))))))) k
            refine rd_op (ov_move rfl) ?_
            refine rd_cut (d := 153) (v := vb ((y175 && (entry_Matches x2.B x2.Key)) && (!(entry_SameKey x2.A x2.B)))) ?_ ?_
            · intro S Q r
              simp only [ac13_G9, List.cons_append, List.nil_append, List.append_assoc]
              cases hb179 : (y175 && (entry_Matches x2.B x2.Key))
              · intro k
                refine rd_skip rfl rfl ?_
                refine rd_skip rfl rfl ?_
                refine rd_skip rfl rfl ?_
                refine rd_skip rfl rfl ?_
                refine rd_op (v := vb false) (ov_pick rfl rfl rfl rfl) ?_
                exact rd_weak (sub_cons rfl (sub_skip rfl (sub_skip rfl (sub_skip rfl (sub_skip rfl (sub_skip rfl (sub_refl _))))))) k
              · intro k
                have hb179' := hb179
                try simp only [Bool.or_eq_true, Bool.or_eq_false_iff, Bool.and_eq_true, Bool.and_eq_false_imp, decide_eq_true_eq, decide_eq_false_iff_not, Bool.not_eq_true', Bool.not_eq_false', Bool.not_eq_true, Bool.not_eq_false, Bool.not_true, Bool.not_false, ne_eq] at hb179'
                refine rd_yes rfl rfl (ov_load0 (k := 1) M173 rfl rfl (TR.agg api_Entry.t r101)) ?_
                refine rd_yes rfl rfl (ov_load0 (k := 0) M173 rfl rfl (TR.agg api_Entry.t r102)) ?_
                have f180 := f40_ok  r101 r102 
                refine rd_ycall rfl rfl (cv_fn rfl rfl (clL_cons (TR.clo api_Entry.t r101) (clL_cons (TR.clo api_Entry.t r102) clL_nil)) f180) ?_
                refine rd_yes rfl rfl (ov_not rfl) ?_
                refine rd_op (v := vb (!(entry_SameKey x2.A x2.B))) (ov_pick rfl rfl rfl rfl) ?_
                exact rd_weak (sub_cons rfl (sub_skip rfl (sub_skip rfl (sub_skip rfl (sub_skip rfl (sub_skip rfl (sub_refl _))))))) k
            refine rd_nil ?_
            refine pn_seq ?_
            refine rc_cond rfl (fun hc181 => ?_) (fun hc181 => ?_)
            · replace hres := (ite_t hc181).symm.trans hres
              have hc181' := hc181
              try simp only [Bool.or_eq_true, Bool.or_eq_false_iff, Bool.and_eq_true, Bool.and_eq_false_imp, decide_eq_true_eq, decide_eq_false_iff_not, Bool.not_eq_true', Bool.not_eq_false', Bool.not_eq_true, Bool.not_eq_false, Bool.not_true, Bool.not_false, ne_eq] at hc181'
              refine rc_seq ?_
              refine rc_region ?_
              refine rd_op (v := vb false) (ov_move rfl) ?_
              refine rd_nil ?_
              refine pn_seq ?_
              subst hres
              exact rc_retV (.tmp rfl .nil) (deep_closed rfl) rfl
            · replace hres := (ite_f hc181).symm.trans hres
              have hc181' := hc181
              try simp only [Bool.or_eq_true, Bool.or_eq_false_iff, Bool.and_eq_true, Bool.and_eq_false_imp, decide_eq_true_eq, decide_eq_false_iff_not, Bool.not_eq_true', Bool.not_eq_false', Bool.not_eq_true, Bool.not_eq_false, Bool.not_true, Bool.not_false, ne_eq] at hc181'
              refine rc_skip ?_
              refine pn_seq ?_
              refine rc_seq ?_
              refine rc_region ?_
              obtain ⟨y182, hw182, hres⟩ := let_ex hres
              have f182 := f33_ok   
              rw [hw182] at f182
              refine rd_call (cv_fn rfl rfl clL_nil f182) ?_
              refine rd_op (ov_move rfl) ?_
              refine rd_nil ?_
              refine pn_seq ?_
              subst hres
              exact rc_retV (.tmp rfl .nil) (deep_closed rfl) rfl
      · intro J
        refine rc_cond rfl (fun hc183 => ?_) (fun hc183 => ?_)
        · replace hres := (ite_t hc183).symm.trans hres
          have hc183' := hc183
          try simp only [Bool.or_eq_true, Bool.or_eq_false_iff, Bool.and_eq_true, Bool.and_eq_false_imp, decide_eq_true_eq, decide_eq_false_iff_not, Bool.not_eq_true', Bool.not_eq_false', Bool.not_eq_true, Bool.not_eq_false, Bool.not_true, Bool.not_false, ne_eq] at hc183'
          refine rc_seq ?_
          refine rc_region ?_
          refine rd_op (v := vi 0) (ov_move rfl) ?_
          refine rd_nil ?_
          refine pn_seq ?_
          refine rc_block ?_
          refine rc_weak ?_ (law23_EntryExact_L2_ok (x0 := x0) (x1 := x1) (x2 := x2) (y109 := y109) (y119 := y119) (y125 := y125) (v0 := v0) (v2 := v2) (v101 := v101) (v102 := v102) (i103 := i103) (w103 := w103) (i105 := i105) (w105 := w105) (r2 := r2) (r101 := r101) (hw109 := hw109) (hc116 := hc116) (hw119 := hw119) (hc123 := hc123) (hw125 := hw125) (hc183 := hc183) ?_ (Int.toNat ((x2.Key.length : Int) - 0)) 0 rfl (by omega) _ (Mem.sub M108 (.cons_cons _ (.cons_cons _ .slnil))) hres)
          · exact ((sub_cons rfl (sub_cons rfl (sub_cons rfl (sub_cons rfl (sub_cons rfl (sub_cons rfl (sub_nil _))))))))
          · intro h206 M206 hres
            refine px_blk ?_
            refine pn_seq (rc_weak ((sub_cons rfl (sub_cons rfl (sub_cons rfl (sub_cons rfl (sub_cons rfl (sub_nil _))))))) (J  _ (Mem.sub M206 (.cons_cons _ (.cons_cons _ .slnil))) hres))
        · replace hres := (ite_f hc183).symm.trans hres
          have hc183' := hc183
          try simp only [Bool.or_eq_true, Bool.or_eq_false_iff, Bool.and_eq_true, Bool.and_eq_false_imp, decide_eq_true_eq, decide_eq_false_iff_not, Bool.not_eq_true', Bool.not_eq_false', Bool.not_eq_true, Bool.not_eq_false, Bool.not_true, Bool.not_false, ne_eq] at hc183'
          refine rc_skip ?_
          refine pn_seq (rc_weak ((sub_cons rfl (sub_cons rfl (sub_cons rfl (sub_cons rfl (sub_cons rfl (sub_nil _))))))) (J  _ (Mem.sub M108 (.cons_cons _ (.cons_cons _ .slnil))) hres))

end Go.Proofs.Ytklfdkbemkommaa
