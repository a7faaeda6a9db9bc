/-
  The code of each function does what its plain program says.
-/
import Derived.Test.YtmonnlkagniolaaGreatL10W1
set_option linter.unusedVariables false
set_option linter.unusedSimpArgs false
set_option maxRecDepth 100000
namespace Go.Proofs.YtmonnlkagniolaaGreat
open Go Go.Pb Go.RowKit
def RF182 (res : (BitVec 32)) (r : PV) : Prop := r = vu32 res
theorem f182_ok {x0 : Int} : FnR Tryz.prog 182 [vi x0] (vu32 (bitvec_Mask x0)) := by
  refine fnS (R := RF182) text182 (fun _ h => h) rfl fun res hres => ?_
  unfold bitvec_Mask at hres
  refine sR ?_
  refine rd_op (v := vu32 0#32) (ov_move rfl) ?_
  refine nS ?_
  refine rc_seq ?_
  refine sR ?_
  refine mV rfl ?_
  refine rd_op (v := .fs true [vi x0]) (ov_bslice rfl (all_cons rfl all_nil)) ?_
  have a1 : (tSl tI).R ([x0] : List Int) (.fs true [vi x0]) := sl_fs ⟨rfl, trivial⟩ (by simp)
  obtain ⟨a3, a2, hres⟩ := let_ex hres
  have a0 := f181_ok  a1 
  rw [a2] at a0
  refine cL a0 rfl rfl (clL_cons (TR.clo (tSl tI) a1) clL_nil) ?_
  refine rd_op (ov_not rfl) ?_
  refine nS ?_
  refine rc_br hres rfl ?_ ?_ <;> clear hres <;> intro c hres <;> try simp only [qa, qaD] at c
  · refine sR ?_
    refine rd_op (v := vu32 0#32) (ov_move rfl) ?_
    refine nS ?_
    exact rR hres rfl rfl rfl
  · refine rc_skip ?_
    refine pn_seq ?_
    refine sR ?_
    refine mV rfl ?_
    refine bN i_sub rfl rfl ?_
    refine rd_op (ov_bin (a := vu32 4294967295#32) (b := vi (wr (32 - x0))) rfl rfl (w_shr (by first | omega | exact mask_sh (by assumption) (by assumption)))) ?_
    refine mV rfl ?_
    refine nS ?_
    exact rR hres rfl rfl rfl

def RF136 (res : Int) (r : PV) : Prop := r = vi res
theorem f136_ok {x0 : api_Program} {x1 : api_FieldRef} {v0 v1 : PV} (r0 : api_Program.t.R x0 v0) (r1 : api_FieldRef.t.R x1 v1) : FnR Tryz.prog 136 [v0, v1] (vi (env_Width x0 x1)) := by
  refine fnS (R := RF136) text136 (fun _ h => h) rfl fun res hres => ?_
  unfold env_Width at hres
  refine sR ?_
  refine rd_op (ov_box rfl (TR.cnt api_Program.t r0)) ?_
  refine rd_op (ov_box rfl (TR.cnt api_FieldRef.t r1)) ?_
  refine mI rfl ?_
  refine nR ?_
  refine lD r0 rfl rfl rfl ?_
  refine fL rfl (api_FieldRef.g_Header r1) rfl rfl ?_
  obtain ⟨b1, a5, hres⟩ := let_ex hres
  obtain ⟨b0, a9, a0⟩ := f203_ok (x1 := x1.Header) r0 
  rw [a5] at a0
  refine cL a9 rfl rfl (clL_cons (TR.clo api_Program.t r0) (clL_cons rfl clL_nil)) ?_
  refine fL rfl (api_FieldRef.g_Field r1) rfl rfl ?_
  obtain ⟨a8, a2, hres⟩ := let_ex hres
  obtain ⟨b2, a6, a3⟩ := f202_ok (x1 := x1.Field) a0 
  rw [a2] at a3
  refine cL a6 rfl rfl (clL_cons (TR.clo (tSl api_Field.t) a0) (clL_cons rfl clL_nil)) ?_
  refine rd_op (ov_field rfl (api_Field.g_Width a3)) ?_
  refine mV rfl ?_
  refine nS ?_
  refine rc_seq ?_
  refine sR ?_
  refine mV rfl ?_
  obtain ⟨a7, a1, hres⟩ := let_ex hres
  have a4 := f182_ok (x0 := a8.Width)  
  rw [a1] at a4
  refine cL a4 rfl rfl (clL_cons rfl clL_nil) ?_
  refine rd_op (ov_bin (a := vu32 a7) (b := vu32 0#32) rfl rfl w_eql) ?_
  refine nS ?_
  refine rc_br hres rfl ?_ ?_ <;> clear hres <;> intro c hres <;> try simp only [qa, qaD] at c
  · refine sR ?_
    refine mI rfl ?_
    refine nS ?_
    exact rR hres rfl rfl rfl
  · refine rc_skip ?_
    refine pn_seq ?_
    refine sR ?_
    refine mV rfl ?_
    refine mV rfl ?_
    refine nS ?_
    exact rR hres rfl rfl rfl

def RF270 (res : Bool) (r : PV) : Prop := r = vb res
theorem f270_ok {x0 : List (BitVec 32)} {x1 : Int} {v0 : PV} (r0 : (tSl tU32).R x0 v0) : FnR Tryz.prog 270 [v0, vi x1] (vb (env_in_uint32 x0 x1)) := by
  refine fnS (R := RF270) text270 (fun _ h => h) rfl fun res hres => ?_
  unfold env_in_uint32 at hres
  refine sR ?_
  refine mB rfl ?_
  refine nR ?_
  refine mV rfl ?_
  refine bN i_geq rfl rfl ?_
  refine mV rfl ?_
  refine rd_cutn 5 (d := 12) (v := vb ((decide (0 ≤ x1)) && (decide (x1 < (x0.length : Int))))) ?_ ?_
  · intro S Q r
    cases a1 : (decide (0 ≤ x1))
    · exact gN 4 rfl rfl rfl rfl rfl rfl
    · intro k
      have a0 := a1
      try simp only [qa, qaD] at a0
      refine rd_yes rfl rfl (ov_move rfl) ?_
      refine rd_yes rfl rfl (ov_move rfl) ?_
      refine rd_yes rfl rfl (ov_bi rfl (sl_len r0 Tryz.underlying43 _)) ?_
      refine rd_yes rfl rfl (ov_bin rfl rfl i_lss) ?_
      exact gK rfl rfl rfl rfl rfl k
  refine mV rfl ?_
  refine nS ?_
  exact rR hres rfl rfl rfl

def RF271 (res : (List (BitVec 32))) (r : PV) : Prop := (tSl tU32).R res r
theorem f271_ok {x0 : List (List (BitVec 32))} {x1 : Int} {v0 : PV} (r0 : (tSl (tSl tU32)).R x0 v0) : ∃ r, FnR Tryz.prog 271 [v0, vi x1] r ∧ (tSl tU32).R (env_at__uint32_ x0 x1) r := by
  refine fnT (R := RF271) text271 rfl fun res hres => ?_
  unfold env_at__uint32_ at hres
  refine sR ?_
  refine rd_op (v := nilS) (ov_move rfl) ?_
  refine nR ?_
  refine rd_op (v := nilS) (ov_move rfl) ?_
  refine nS ?_
  refine rc_seq ?_
  refine sR ?_
  refine mV rfl ?_
  refine bN i_lss rfl rfl ?_
  refine mV rfl ?_
  refine rd_cutn 5 (d := 13) (v := vb ((decide (x1 < 0)) || (decide ((x0.length : Int) ≤ x1)))) ?_ ?_
  · intro S Q r
    cases a2 : (decide (x1 < 0))
    · intro k
      have a1 := a2
      try simp only [qa, qaD] at a1
      refine rd_yes rfl rfl (ov_move rfl) ?_
      refine rd_yes rfl rfl (ov_move rfl) ?_
      refine rd_yes rfl rfl (ov_bi rfl (sl_len r0 Tryz.underlying42 _)) ?_
      refine rd_yes rfl rfl (ov_bin rfl rfl i_geq) ?_
      exact gK rfl rfl rfl rfl rfl k
    · exact gN 4 rfl rfl rfl rfl rfl rfl
  refine nS ?_
  refine rc_br hres rfl ?_ ?_ <;> clear hres <;> intro c hres <;> try simp only [qa, qaD] at c
  · refine sR ?_
    refine mV rfl ?_
    refine mV rfl ?_
    refine nS ?_
    exact rR hres rfl (TR.clo (tSl tU32) sl_nil) sl_nil
  · refine rc_skip ?_
    refine pn_seq ?_
    refine sR ?_
    refine mV rfl ?_
    refine mV rfl ?_
    obtain ⟨a4, a3, a0⟩ := sl_idx (i := x1) r0 (by omega) (by omega)
    refine rd_op (ov_iaddr rfl rfl a3) ?_
    refine lD a0 rfl rfl rfl ?_
    refine mV rfl ?_
    refine nS ?_
    exact rR hres rfl (TR.clo (tSl tU32) a0) a0

def RF272 (res : Bool) (r : PV) : Prop := r = vb res
theorem f272_ok {x0 : List Bool} {x1 : Int} {v0 : PV} (r0 : (tSl tB).R x0 v0) : FnR Tryz.prog 272 [v0, vi x1] (vb (env_at_bool x0 x1)) := by
  refine fnS (R := RF272) text272 (fun _ h => h) rfl fun res hres => ?_
  unfold env_at_bool at hres
  refine sR ?_
  refine mB rfl ?_
  refine nR ?_
  refine mB rfl ?_
  refine nS ?_
  refine rc_seq ?_
  refine sR ?_
  refine mV rfl ?_
  refine bN i_lss rfl rfl ?_
  refine mV rfl ?_
  refine rd_cutn 5 (d := 13) (v := vb ((decide (x1 < 0)) || (decide ((x0.length : Int) ≤ x1)))) ?_ ?_
  · intro S Q r
    cases a1 : (decide (x1 < 0))
    · intro k
      have a0 := a1
      try simp only [qa, qaD] at a0
      refine rd_yes rfl rfl (ov_move rfl) ?_
      refine rd_yes rfl rfl (ov_move rfl) ?_
      refine rd_yes rfl rfl (ov_bi rfl (sl_len r0 Tryz.underlying41 _)) ?_
      refine rd_yes rfl rfl (ov_bin rfl rfl i_geq) ?_
      exact gK rfl rfl rfl rfl rfl k
    · exact gN 4 rfl rfl rfl rfl rfl rfl
  refine nS ?_
  refine rc_br hres rfl ?_ ?_ <;> clear hres <;> intro c hres <;> try simp only [qa, qaD] at c
  · refine sR ?_
    refine mV rfl ?_
    refine mV rfl ?_
    refine nS ?_
    exact rR hres rfl rfl rfl
  · refine rc_skip ?_
    refine pn_seq ?_
    refine sR ?_
    refine mV rfl ?_
    refine mV rfl ?_
    refine rd_op (ov_iaddr rfl rfl (slB r0 (by omega) (by omega))) ?_
    refine lR rfl rfl rfl ?_
    refine mV rfl ?_
    refine nS ?_
    exact rR hres rfl rfl rfl

def RF227 (res : (List (BitVec 32)) × Bool) (r : PV) : Prop := ∃ c0, r = .tup [c0, vb res.2] ∧ (tSl tU32).R res.1 c0
theorem f227_ok {x0 : api_Env} {x1 : api_FieldRef} {v0 v1 : PV} (r0 : api_Env.t.R x0 v0) (r1 : api_FieldRef.t.R x1 v1) : ∃ c0, FnR Tryz.prog 227 [v0, v1] (.tup [c0, vb ((env_element x0 x1).2)]) ∧ (tSl tU32).R (env_element x0 x1).1 c0 := by
  obtain ⟨res, hres⟩ : ∃ res, env_element x0 x1 = res := ⟨_, rfl⟩
  suffices H : RC Tryz.prog ac227 [] (QR Tryz.prog [(4, none), (5, none)] (RF227 res)) (argE 0 [v0, v1]) ⟨0, []⟩ by
    rw [hres]
    obtain ⟨r, h1, c0, rfl, c3⟩ := fnE text227 (by simp) H
    exact ⟨c0, h1, c3⟩
  unfold env_element at hres
  refine sR ?_
  refine rd_op (ov_box rfl (TR.cnt api_Env.t r0)) ?_
  refine rd_op (ov_box rfl (TR.cnt api_FieldRef.t r1)) ?_
  refine rd_op (v := nilS) (ov_move rfl) ?_
  refine mB rfl ?_
  refine nS ?_
  refine rc_seq ?_
  refine sR ?_
  refine lD r1 rfl rfl rfl ?_
  refine fL rfl (api_FieldRef.g_Field r1) rfl rfl ?_
  refine rd_op (v := .agg [vi (-1), vi x1.Field]) (ov_build (cs := [vi (-1), vi x1.Field]) rfl rfl) ?_
  refine bN (api_FieldRef.eql_87 r1 (show api_FieldRef.t.R ({ Header := (-1), Field := x1.Field } : api_FieldRef) (.agg [vi (-1), vi x1.Field]) from rfl)) rfl rfl ?_
  refine nS ?_
  refine rc_br hres rfl ?_ ?_ <;> clear hres <;> intro c hres <;> try simp only [qa, qaD] at c
  · refine sR ?_
    refine gL (api_Env.g_Meta r0) rfl rfl rfl fun b3 b1 => ?_
    refine gL (api_Env.g_Meta r0) rfl rfl rfl fun b9 a2 => ?_
    refine fL rfl (api_FieldRef.g_Field r1) rfl rfl ?_
    obtain ⟨b8, a3, hres⟩ := let_ex hres
    have a7 := f270_ok (x1 := x1.Field) a2 
    rw [a3] at a7
    refine cL a7 rfl rfl (clL_cons (TR.clo (tSl tU32) a2) (clL_cons rfl clL_nil)) ?_
    refine mV rfl ?_
    refine mV rfl ?_
    refine nS ?_
    subst hres
    exact rc_retV (.tmp rfl (.tmp rfl .nil)) (deep_closed (show closed (.tup _) = true from (clL_cons (TR.clo (tSl tU32) b1) (clL_cons rfl clL_nil)))) ⟨b3, rfl, b1⟩
  · refine rc_skip ?_
    refine pn_seq ?_
    refine sR ?_
    refine gL (api_Env.g_Fields r0) rfl rfl rfl fun c2 a8 => ?_
    refine fL rfl (api_FieldRef.g_Header r1) rfl rfl ?_
    obtain ⟨b5, a9, hres⟩ := let_ex hres
    obtain ⟨b6, b4, a0⟩ := f271_ok (x1 := x1.Header) a8 
    rw [a9] at a0
    refine cL b4 rfl rfl (clL_cons (TR.clo (tSl (tSl tU32)) a8) (clL_cons rfl clL_nil)) ?_
    refine mV rfl ?_
    refine nR ?_
    refine mV rfl ?_
    refine gL (api_Env.g_Valid r0) rfl rfl rfl fun c1 a4 => ?_
    refine fL rfl (api_FieldRef.g_Header r1) rfl rfl ?_
    obtain ⟨b2, a6, hres⟩ := let_ex hres
    have b0 := f272_ok (x1 := x1.Header) a4 
    rw [a6] at b0
    refine cL b0 rfl rfl (clL_cons (TR.clo (tSl tB) a4) (clL_cons rfl clL_nil)) ?_
    refine mV rfl ?_
    refine rd_cutn 5 (d := 35) (v := vb (b2 && (env_in_uint32 b5 x1.Field))) ?_ ?_
    · intro S Q r
      cases a5 : b2
      · exact gN 4 rfl rfl rfl rfl rfl rfl
      · intro k
        have a1 := a5
        try simp only [qa, qaD] at a1
        refine rd_yes rfl rfl (ov_move rfl) ?_
        refine rd_yes rfl rfl (ov_faddr rfl (api_FieldRef.g_Field r1)) ?_
        refine rd_yes rfl rfl (ov_load rfl rfl rfl) ?_
        have b7 := f270_ok (x1 := x1.Field) a0 
        refine rd_ycall rfl rfl (cv_fn rfl rfl (clL_cons (TR.clo (tSl tU32) a0) (clL_cons rfl clL_nil)) b7) ?_
        exact gK rfl rfl rfl rfl rfl k
    refine mV rfl ?_
    refine mV rfl ?_
    refine nS ?_
    subst hres
    exact rc_retV (.tmp rfl (.tmp rfl .nil)) (deep_closed (show closed (.tup _) = true from (clL_cons (TR.clo (tSl tU32) a0) (clL_cons rfl clL_nil)))) ⟨b6, rfl, a0⟩

section
variable {h : Heap} {e : api_Env} {a b c d : PV} {eb ef em ep : List PV} {I R : List Ent}
theorem f271o {L : List Ent} {k : Nat} (M : Mem h L) (hk : L[k]? = some ⟨b, 43, 1, ef⟩) (nb : isL b = true) (wb : Wri b ef) (ha : ∀ x ∈ ef, x.isAgg = false) {i : Int} :
    FnX Tryz.prog 271 [b, vi i] h (if 0 ≤ i ∧ i < (ef.length : Int) then ef.getD i.toNat nilS else nilS) h := by
  obtain ⟨r, h', X, rfl, rfl⟩ := fnX (P := Tryz.prog) (h := h) text271 (args := [b, vi i]) (Φ := fun r k => r = (if 0 ≤ i ∧ i < (ef.length : Int) then ef.getD i.toNat nilS else nilS) ∧ k = h) (by simp) (by
    refine sR (rd_op (v := nilS) (ov_move rfl) (nR (rd_op (v := nilS) (ov_move rfl) (nS ?_))))
    refine rc_seq (sR (mV rfl (bN i_lss rfl rfl (mV rfl ?_))))
    refine rd_cutn 5 (d := 13) (v := vb ((decide (i < 0)) || (decide ((ef.length : Int) ≤ i)))) ?_ ?_
    · intro S Q r
      cases a0 : (decide (i < 0))
      · intro k
        refine rd_yes rfl rfl (ov_move rfl) ?_
        refine rd_yes rfl rfl (ov_move rfl) ?_
        refine rd_yes rfl rfl (ov_bi rfl (ent_len (M.at hk) Tryz.underlying42 nb _)) ?_
        refine rd_yes rfl rfl (ov_bin rfl rfl i_geq) ?_
        exact gK rfl rfl rfl rfl rfl k
      · exact gN 4 rfl rfl rfl rfl rfl rfl
    refine nS (rc_cond rfl (fun hc => ?_) fun hc => ?_)
    · simp only [Bool.or_eq_true, decide_eq_true_eq] at hc
      refine sR (mV rfl (mV rfl (nS ?_)))
      exact rc_retX (.tmp rfl .nil) ⟨by rw [if_neg (by omega)]; rfl, rfl⟩
    · simp only [Bool.or_eq_false_iff, decide_eq_false_iff_not] at hc
      refine rc_skip (pn_seq (sR (mV rfl (mV rfl ?_))))
      have hlt : i.toNat < ef.length := by omega
      rcases wb with rfl | ⟨id, ver, n, rfl⟩
      · simp at hlt
      have hn := mem_osn M hk
      refine rd_op (ov_iaddr rfl rfl (n_idx 1 (i := i) (by omega) (by omega))) ?_
      refine rd_op (ov_elem M rfl hk (List.getElem?_eq_getElem hlt) (ha _ (List.getElem_mem hlt))) (mV rfl (nS ?_))
      exact rc_retX (.tmp rfl .nil) ⟨by rw [if_pos (by omega), List.getD_eq_getElem?_getD, List.getElem?_eq_getElem hlt]; rfl, rfl⟩)
  exact X
theorem OE.aggs (H : OE h e a b c d eb ef em ep I R) : ∀ x ∈ ef, x.isAgg = false := by
  intro x hx
  obtain ⟨k, hk, rfl⟩ := List.getElem_of_mem hx
  have hl := H.f.len.1
  obtain ⟨v, es, g1, g2, g3, g4, g5, g6, g7⟩ := H.inner (i := (k : Int)) (by omega) (by omega)
  rw [Int.toNat_natCast, List.getElem?_eq_getElem hk, Option.some.injEq] at g1
  rw [g1]
  exact (mem_one H.M g3 g5).2
theorem OE.elv_ok (H : OE h e a b c d eb ef em ep I R) (r : api_FieldRef) (hr : ¬r.Header = -1) : ∃ d', Deep Tryz.prog h (elv c ef r) d' ∧ (tSl tU32).R (env_at__uint32_ e.Fields r.Header) d' := by
  unfold elv env_at__uint32_
  rw [if_neg hr]
  have hl := H.f.len.1
  by_cases hi : 0 ≤ r.Header ∧ r.Header < (ef.length : Int)
  · rw [if_pos hi, if_neg (by simp; omega)]
    obtain ⟨v, es, g1, g2, g3, g4, g5, g6, g7⟩ := H.inner (i := r.Header) hi.1 (by omega)
    rw [List.getD_eq_getElem?_getD, g1]
    exact own_sl (t := tU32) H.M g3 g5 g4 (by omega)
  · rw [if_neg hi, if_pos (by simp; omega)]
    exact ⟨nilS, deep_closed rfl, sl_nil⟩
theorem f227o (H : OE h e a b c d eb ef em ep I R) (hE : EB e) {x1 : api_FieldRef} {v1 : PV} (r1 : api_FieldRef.t.R x1 v1) :
    FnX Tryz.prog 227 [.agg [a, b, c, d], v1] h (.tup [elv c ef x1, vb (env_element e x1).2]) h := by
  obtain ⟨r, h', X, rfl, rfl⟩ := fnX (P := Tryz.prog) (h := h) text227 (args := [.agg [a, b, c, d], v1]) (Φ := fun r k => r = .tup [elv c ef x1, vb (env_element e x1).2] ∧ k = h) (by simp) (by
    refine sR (rd_op (ov_box rfl rfl) (rd_op (ov_box rfl (TR.cnt api_FieldRef.t r1)) (rd_op (v := nilS) (ov_move rfl) (mB rfl (nS ?_)))))
    refine rc_seq (sR (lD r1 rfl rfl rfl (fL rfl (api_FieldRef.g_Field r1) rfl rfl ?_)))
    refine rd_op (v := .agg [vi (-1), vi x1.Field]) (ov_build (cs := [vi (-1), vi x1.Field]) rfl rfl) ?_
    refine bN (api_FieldRef.eql_87 r1 (show api_FieldRef.t.R ({ Header := (-1), Field := x1.Field } : api_FieldRef) (.agg [vi (-1), vi x1.Field]) from rfl)) rfl rfl ?_
    have ec : (x1 = ({ Header := -1, Field := x1.Field } : api_FieldRef)) ↔ x1.Header = -1 := by
      cases x1; simp [api_FieldRef.mk.injEq]
    obtain ⟨d0, a3, s0⟩ := own_sl (P := Tryz.prog) (t := tB) H.M (k := 0) rfl H.na H.v (by have := hE.v; omega)
    obtain ⟨d2, a1, s2⟩ := own_sl (P := Tryz.prog) (t := tU32) H.M (k := 2) rfl H.nc H.m (by have := hE.m; omega)
    have g2 : fieldR 2 1 false (.agg [a, b, c, d]) = some c := mk1 (mem_one H.M (k := 2) rfl H.nc).2
    have g1 : fieldR 1 1 false (.agg [a, b, c, d]) = some b := mk1 (mem_one H.M (k := 1) rfl H.nb).2
    have g0 : fieldR 0 1 false (.agg [a, b, c, d]) = some a := mk1 (mem_one H.M (k := 0) rfl H.na).2
    refine nS (rc_cond rfl (fun hc => ?_) fun hc => ?_)
    · simp only [decide_eq_true_eq, ec] at hc
      refine sR (fA rfl g2 (lR rfl (mem_cnt1 H.M (k := 2) rfl H.nc) (mem_one H.M (k := 2) rfl H.nc).2 (fA rfl g2 (lR rfl (mem_cnt1 H.M (k := 2) rfl H.nc) (mem_one H.M (k := 2) rfl H.nc).2 (fL rfl (api_FieldRef.g_Field r1) rfl rfl ?_)))))
      refine rd_call (cv_lend rfl rfl (dl_cons a1 (dl_cons (deep_closed rfl) dl_nil)) (f270_ok (x1 := x1.Field) s2) rfl) (mV rfl (mV rfl (nS ?_)))
      refine rc_retX (.tmp rfl (.tmp rfl .nil)) ⟨?_, rfl⟩
      have e2 : (env_element e x1).2 = env_in_uint32 e.Metd x1.Field := by
        unfold env_element
        simp only [LET]
        rw [if_pos (by simp only [decide_eq_true_eq, ec]; exact hc)]
      rw [e2]
      unfold elv
      rw [if_pos hc]
      rfl
    · simp only [decide_eq_false_iff_not, ec] at hc
      obtain ⟨d1, a2, s1⟩ := H.elv_ok x1 hc
      have e1 : (if 0 ≤ x1.Header ∧ x1.Header < (ef.length : Int) then ef.getD x1.Header.toNat nilS else nilS) = elv c ef x1 := by unfold elv; rw [if_neg hc]
      have f1 := f271o H.M (k := 1) rfl H.nb H.wb H.aggs (i := x1.Header)
      rw [e1] at f1
      refine rc_skip (pn_seq (rc_seq (rc_regionS ?_)))
      refine rs_step (rd_op (ov_faddr rfl g1) (rs_back (rs_step (rd_op (ov_load rfl (mem_cnt1 H.M (k := 1) rfl H.nb) (mem_one H.M (k := 1) rfl H.nb).2) (rs_back ?_)))))
      refine rs_step (rd_op (ov_faddr rfl (api_FieldRef.g_Header r1)) (rs_back (rs_step (rd_op (ov_load rfl rfl rfl) (rs_back ?_)))))
      refine rs_callXc rfl rfl f1 ?_
      refine rs_step (rd_op (ov_move rfl) (rs_back (rs_nil ?_)))
      refine pn_seq (sR (rd_op (ov_move rfl) ?_))
      refine rd_op (ov_faddr rfl g0) (rd_op (ov_load rfl (mem_cnt1 H.M (k := 0) rfl H.na) (mem_one H.M (k := 0) rfl H.na).2) (fL rfl (api_FieldRef.g_Header r1) rfl rfl ?_))
      refine rd_call (cv_lend rfl rfl (dl_cons a3 (dl_cons (deep_closed rfl) dl_nil)) (f272_ok (x1 := x1.Header) s0) rfl) (mV rfl ?_)
      refine rd_cutn 5 (d := 35) (v := vb ((env_at_bool e.Valid x1.Header) && (env_in_uint32 (env_at__uint32_ e.Fields x1.Header) x1.Field))) ?_ ?_
      · intro S Q r
        cases a0 : (env_at_bool e.Valid x1.Header)
        · exact gN 4 rfl rfl rfl rfl rfl rfl
        · intro k
          refine rd_yes rfl rfl (ov_move rfl) ?_
          refine rd_yes rfl rfl (ov_faddr rfl (api_FieldRef.g_Field r1)) ?_
          refine rd_yes rfl rfl (ov_load rfl rfl rfl) ?_
          refine rd_ycall rfl rfl (cv_lend rfl rfl (dl_cons a2 (dl_cons (deep_closed rfl) dl_nil)) (f270_ok (x1 := x1.Field) s1) rfl) ?_
          exact gK rfl rfl rfl rfl rfl k
      refine mV rfl (mV rfl (nS ?_))
      refine rc_retX (.tmp rfl (.tmp rfl .nil)) ⟨?_, rfl⟩
      have e2 : (env_element e x1).2 = ((env_at_bool e.Valid x1.Header) && (env_in_uint32 (env_at__uint32_ e.Fields x1.Header) x1.Field)) := by
        unfold env_element
        simp only [LET]
        rw [if_neg (by simp only [decide_eq_true_eq, ec]; exact hc)]
      rw [e2]
      rfl)
  exact X
end
theorem ret_env {S : List Fr} {E : TEnv} {h : Heap} {e : api_Env} {a b c d : PV} {eb ef em ep : List PV} {I R : List Ent} {i8 w8 i9 w9 dl t8 t9 : Nat} {x : PV} (H : OE h e a b c d eb ef em ep I (⟨.op i9 w9 0, 46, 4, [.agg [a, b, c, d]]⟩ :: ⟨.op i8 w8 0, 46, 4, [x]⟩ :: R)) (hE : EB e)
    (h9 : Pb.look t9 E = some (.op i9 w9 0)) (h8 : Pb.look t8 E = some (.op i8 w8 0)) (hd : Nat.beq t8 dl = false) : RC Tryz.prog (.seq (.region false [⟨some dl, .load 4 true (.tmp t9), none, false⟩, ⟨none, .store 4 (.tmp t8) (.tmp dl), none, false⟩]) .ret) S (QR Tryz.prog [(t8, some (4, true))] (api_Env.t.R e)) E h := by
  have e8 : evE ((dl, .agg [a, b, c, d]) :: E) (.tmp t8) = some (.op i8 w8 0) := by
    have : Nat.beq t8 dl = false := hd
    simp only [evE, Pb.look, this, cond_false]; exact h8
  have a0 : Pb.look t8 ((dl, .agg [a, b, c, d]) :: E) = some (.op i8 w8 0) := e8
  have ed : evE ((dl, .agg [a, b, c, d]) :: E) (.tmp dl) = some (.agg [a, b, c, d]) := by simp [evE, Pb.look]
  refine sR (rd_op (ov_load0 (k := 0) H.pull h9 rfl rfl) ?_)
  have M := H.pull
  have hk : (⟨a, 4, 1, eb⟩ :: ⟨b, 43, 1, ef⟩ :: ⟨c, 89, 1, em⟩ :: ⟨d, 5, 1, ep⟩ :: (I ++ (⟨.op i9 w9 0, 46, 4, [.agg [a, b, c, d]]⟩ :: ⟨.op i8 w8 0, 46, 4, [x]⟩ :: R)))[I.length + 5]? = some (⟨.op i8 w8 0, 46, 4, [x]⟩ : Ent) := by
    simp only [List.getElem?_cons_succ]
    rw [List.getElem?_append_right (by omega), show I.length + 1 - I.length = 1 by omega]; rfl
  refine rd_storeO (k := I.length + 5) (v := .agg [a, b, c, d]) H.M e8 ed hk rfl (fun h' M' => nS ?_)
  have hset : (I ++ (⟨.op i9 w9 0, 46, 4, [.agg [a, b, c, d]]⟩ :: ⟨.op i8 w8 0, 46, 4, [x]⟩ :: R)).set (I.length + 1) ⟨.op i8 w8 0, 46, 4, [.agg [a, b, c, d]]⟩ = I ++ (⟨.op i9 w9 0, 46, 4, [.agg [a, b, c, d]]⟩ :: ⟨.op i8 w8 0, 46, 4, [.agg [a, b, c, d]]⟩ :: R) := by
    rw [List.set_append_right _ _ (by omega), show I.length + 1 - I.length = 1 by omega]; rfl
  have H' : OE h' e a b c d eb ef em ep I (⟨.op i9 w9 0, 46, 4, [.agg [a, b, c, d]]⟩ :: ⟨.op i8 w8 0, 46, 4, [.agg [a, b, c, d]]⟩ :: R) := H.mem (by
    simp only [List.set_cons_succ] at M'
    rwa [hset] at M')
  obtain ⟨d', hd', hr⟩ := H'.deep hE
  have hk' : (⟨a, 4, 1, eb⟩ :: ⟨b, 43, 1, ef⟩ :: ⟨c, 89, 1, em⟩ :: ⟨d, 5, 1, ep⟩ :: (I ++ (⟨.op i9 w9 0, 46, 4, [.agg [a, b, c, d]]⟩ :: ⟨.op i8 w8 0, 46, 4, [.agg [a, b, c, d]]⟩ :: R)))[I.length + 5]? = some (⟨.op i8 w8 0, 46, 4, [.agg [a, b, c, d]]⟩ : Ent) := by
    simp only [List.getElem?_cons_succ]
    rw [List.getElem?_append_right (by omega), show I.length + 1 - I.length = 1 by omega]; rfl
  exact rc_retV (.cell a0 (load_whole (k := I.length + 5) H'.M hk' rfl) .nil) hd' hr
theorem in_ok {l : List (BitVec 32)} {i : Int} (h : env_in_uint32 l i = true) : 0 ≤ i ∧ i < l.length := by
  unfold env_in_uint32 at h
  simpa using h
theorem at_in {l : List (List (BitVec 32))} {i j : Int} (h : env_in_uint32 (env_at__uint32_ l i) j = true) : (0 ≤ i ∧ i < l.length) ∧ 0 ≤ j ∧ j < (ix l i).length := by
  unfold env_at__uint32_ at h
  split at h
  · have := in_ok h
    simp at this
    omega
  · rename_i hc
    simp only [Bool.or_eq_true, decide_eq_true_eq, not_or] at hc
    exact ⟨by omega, in_ok h⟩
theorem f188_ok {x0 : api_Program} {x1 : api_Env} {x2 : api_FieldRef} {x3 : BitVec 32} {v0 v1 v2 : PV} (r0 : api_Program.t.R x0 v0) (r1 : api_Env.t.R x1 v1) (r2 : api_FieldRef.t.R x2 v2) (hE : EB x1) : ∃ r, FnR Tryz.prog 188 [v0, v1, v2, vu32 x3] r ∧ api_Env.t.R (env_Set x0 x1 x2 x3) r := by
  refine fnE text188 (by simp) ?_
  refine rc_seq (rc_region ?_)
  refine rd_op (ov_box rfl (TR.cnt api_Program.t r0)) (rd_op (ov_box rfl (TR.cnt api_Env.t r1)) (rd_op (ov_box rfl (TR.cnt api_FieldRef.t r2)) ?_))
  refine rd_allocO (x := .agg [nilS, nilS, nilS, nilS]) (Mem.nil _) rfl rfl (fun i8 w8 h8 M8 => ?_)
  refine rd_nil (pn_seq (rc_seq (rc_regionS ?_)))
  refine rs_step (rd_op (ov_load rfl (TR.cnt api_Env.t r1) (TR.agg api_Env.t r1)) (rs_back ?_))
  obtain ⟨rr, k, X, a, b, c, d, eb, ef, em, ep, I, rfl, H⟩ := f116o_ok r1 hE M8
  refine rs_callXc rfl rfl X ?_
  refine rs_step (rd_allocO (x := .agg [nilS, nilS, nilS, nilS]) H.M rfl rfl (fun i9 w9 h9 M9 => rs_back ?_))
  refine rs_step (rd_storeO (k := 0) (v := .agg [a, b, c, d]) M9 rfl rfl rfl rfl (fun a1 a0 => rs_back (rs_nil ?_)))
  replace H := H.push (g := ⟨.op i9 w9 0, 46, 4, [.agg [a, b, c, d]]⟩) a0
  clear M8 M9 a0 X
  refine pn_seq (rc_seq (rc_region ?_))
  refine lD r0 rfl rfl rfl (lD r2 rfl rfl rfl ?_)
  refine cL (f136_ok r0 r2) rfl rfl (clL_cons (TR.clo _ r0) (clL_cons (TR.clo _ r2) clL_nil)) (mV rfl ?_)
  refine rd_nil (pn_seq (rc_seq (rc_seq (rc_regionS ?_))))
  refine rs_step (rd_op (ov_load0 (k := 0) H.pull rfl rfl rfl) (rs_back ?_))
  refine rs_step (rd_op (ov_load rfl (TR.cnt api_FieldRef.t r2) (TR.agg api_FieldRef.t r2)) (rs_back ?_))
  refine rs_callXc rfl rfl (f227o H hE r2) ?_
  refine rs_step (rd_op (ov_move rfl) (rs_back (rs_step (rd_op (ov_extract rfl rfl) (rs_back (rs_step (rd_op (ov_extract rfl rfl) (rs_back ?_))))))))
  refine rs_step (rd_op (ov_move rfl) (rs_back (rs_step (rd_op (ov_move rfl) (rs_back (rs_nil ?_))))))
  refine pn_seq (rc_seq (rc_region (mV rfl (mV rfl ?_))))
  refine rd_cutn 3 (d := 28) (v := vb ((env_element x1 x2).2 && decide (0 < env_Width x0 x2))) ?_ ?_
  · intro S Q r
    cases hb : (env_element x1 x2).2
    · exact gN 2 rfl rfl rfl rfl rfl rfl
    · intro k
      refine rd_yes rfl rfl (ov_move rfl) (rd_yes rfl rfl (ov_bin rfl rfl i_gtr) ?_)
      exact gK rfl rfl rfl rfl rfl k
  refine rd_nil (pn_seq (rc_cond rfl (fun hc => ?_) fun hc => ?_))
  · have hs : env_Set x0 x1 x2 x3 = putF x1 x2 (x3 &&& bitvec_Mask (env_Width x0 x2)) := by unfold env_Set; rw [if_pos hc]
    rw [hs]
    simp only [Bool.and_eq_true] at hc
    have el := hc.1
    unfold env_element at el
    simp only [LET] at el
    refine rc_region (mV rfl (fL rfl (api_FieldRef.g_Field r2) rfl rfl (mV rfl (mV rfl ?_))))
    refine cL (f182_ok (x0 := env_Width x0 x2)) rfl rfl (clL_cons rfl clL_nil) (bN w_and rfl rfl ?_)
    have ec : (x2 = ({ Header := -1, Field := x2.Field } : api_FieldRef)) ↔ x2.Header = -1 := by
      cases x2; simp [api_FieldRef.mk.injEq]
    by_cases hm : x2.Header = -1
    · rw [if_pos (by simp only [decide_eq_true_eq, ec]; exact hm)] at el
      have hi := in_ok el
      have e2 : elv c ef x2 = c := by unfold elv; rw [if_pos hm]
      have e3 : putF x1 x2 (x3 &&& bitvec_Mask (env_Width x0 x2)) = { x1 with Metd := x1.Metd.set x2.Field.toNat (x3 &&& bitvec_Mask (env_Width x0 x2)) } := by unfold putF; rw [if_pos hm]
      rw [e2, e3]
      obtain ⟨id, ver, n, rfl⟩ := wri_os H.wc H.m hi.1 hi.2
      have hn := mem_osn H.M (k := 2) rfl
      have hl := H.m.length
      refine rd_op (ov_iaddr rfl rfl (n_idx 1 (i := x2.Field) hi.1 (by omega))) ?_
      exact rd_setO (k := 2) (i := x2.Field.toNat) H.M rfl rfl rfl (by omega) rfl (fun h' M' => rd_nil (pn_seq (ret_env (H.setM M' ⟨_, _, _, rfl⟩) hE.setM rfl rfl rfl)))
    · rw [if_neg (by simp only [decide_eq_true_eq, ec]; exact hm)] at el
      simp only [Bool.and_eq_true] at el
      obtain ⟨hr, hi⟩ := at_in el.2
      have hlen := H.f.len.1
      obtain ⟨v, es, g1, g2, g3, g4, g5, g6, g7⟩ := H.inner hr.1 hr.2
      have e2 : elv c ef x2 = v := by unfold elv; rw [if_neg hm, if_pos ⟨hr.1, by omega⟩, List.getD_eq_getElem?_getD, g1]; rfl
      have e3 : putF x1 x2 (x3 &&& bitvec_Mask (env_Width x0 x2)) = { x1 with Fields := x1.Fields.set x2.Header.toNat ((ix x1.Fields x2.Header).set x2.Field.toNat (x3 &&& bitvec_Mask (env_Width x0 x2))) } := by unfold putF; rw [if_neg hm]
      rw [e2, e3]
      obtain ⟨id, ver, n, rfl⟩ := wri_os g7 g4 hi.1 hi.2
      have hn := mem_osn H.M g3
      have hl := g4.length
      refine rd_op (ov_iaddr rfl rfl (n_idx 1 (i := x2.Field) hi.1 (by omega))) ?_
      exact rd_setO (i := x2.Field.toNat) H.M rfl rfl g3 (by omega) rfl (fun h' M' => rd_nil (pn_seq (ret_env (H.setF g1 g2 g4 g5 g6 M' ⟨_, _, _, rfl⟩) (hE.setF (by rw [List.length_set]; exact hE.i _ (ix_mem hr.1 hr.2))) rfl rfl rfl)))
  · have hs : env_Set x0 x1 x2 x3 = x1 := by unfold env_Set; rw [if_neg (by rw [hc]; simp)]
    rw [hs]
    exact rc_skip (pn_seq (ret_env H hE rfl rfl rfl))

theorem dup_z {α : Type} [Inhabited α] {l : List (List α)} {i : Nat} (hi : i < l.length) : (l.take i ++ List.replicate (l.length - i) []).set i l[i] = l.take (i + 1) ++ List.replicate (l.length - (i + 1)) [] := by
  have e1 : (l.take i).length = i := by simp; omega
  rw [List.set_append_right _ _ (by omega), e1, Nat.sub_self, show l.length - i = (l.length - (i + 1)) + 1 by omega, List.replicate_succ, List.set_cons_zero, List.take_succ_eq_append_getElem hi, List.append_assoc]
  rfl
structure OR (h : Heap) (rs : List (List (BitVec 32))) (b : PV) (ef : List PV) (I R : List Ent) : Prop where
  M : Mem h (⟨b, 43, 1, ef⟩ :: (I ++ R))
  f : Ns tU32 89 rs ef I
  nb : isL b = true
  wb : ∃ id ver n, b = .os id ver 0 n
theorem dup_L1 {S : List Fr} {Q : Post} {x0 : List (List (BitVec 32))} {v0 : PV} (q1 : (tSl (tSl tU32)).R x0 v0) (hE : RB x0) {id ver : Nat} {R_ : List Ent}
    (K : ∀ {h : Heap} {ef : List PV} {I : List Ent}, OR h x0 (.os id ver 0 x0.length) ef I R_ → PX Tryz.prog 0 S Q [(3, .os id ver 0 x0.length)] h) :
    ∀ (m : Nat) {i : Int} {ef : List PV} {I : List Ent} {h : Heap}, m = Int.toNat ((x0.length : Int) - i) → 0 ≤ i → i ≤ x0.length →
      OR h (x0.take i.toNat ++ List.replicate (x0.length - i.toNat) []) (.os id ver 0 x0.length) ef I R_ →
      RC Tryz.prog (.loop ac231_L1) S Q [(11, vi i), (10, vi (x0.length : Int)), (9, v0), (3, .os id ver 0 x0.length)] h
  | 0, i, ef, I, h, hm, h0, h1, H => by
    refine rc_loop ?_
    refine rc_seq (rc_region (rd_op (ov_bin rfl rfl i_lss) (rd_nil (pn_seq (rc_seq (rc_cond rfl (fun hc => ?_) fun hc => ?_))))))
    · simp only [decide_eq_true_eq] at hc; omega
    · have e : i = x0.length := by omega
      subst e
      rw [Int.toNat_natCast, List.take_length, Nat.sub_self, List.replicate_zero, List.append_nil] at H
      exact rc_exit (px_seq (px_again (wP (K H) rfl)))
  | m + 1, i, ef, I, h, hm, h0, h1, H => by
    have hlt : i < (x0.length : Int) := by omega
    refine rc_loop ?_
    refine rc_seq (rc_region (rd_op (ov_bin rfl rfl i_lss) (rd_nil (pn_seq (rc_seq (rc_cond rfl (fun hc => ?_) fun hc => ?_))))))
    · refine rc_skip (pn_seq (rc_seq (rc_block ?_)))
      obtain ⟨g0, e0, q0⟩ := sl_idx (i := i) q1 h0 hlt
      have hb := jn_ix hE.i h0 hlt
      have hen : ef.length = x0.length := by rw [H.f.len.1]; simp; omega
      have hIn : I.length = x0.length := by rw [H.f.len.2]; simp; omega
      refine rc_seq (rc_region ?_)
      refine mV rfl (rd_op (ov_iaddr rfl rfl e0) (rd_op (ov_load rfl (TR.cnt _ q0) (TR.agg _ q0)) (mV rfl (mV rfl ?_))))
      refine rd_nil (pn_seq (rc_seq (rc_region ?_)))
      refine mV rfl (mV rfl (mV rfl (rd_op (ov_bi rfl (sl_len q0 Tryz.underlying43 _)) ?_)))
      have ff : fits (ix x0 i).length 4 = true := fits_of (by omega) (by omega)
      refine rd_makeO (sz := 1) (ty := 89) (n := (ix x0 i).length) (zz := vu32 0#32) H.M rfl rfl rfl rfl rfl ff (fun j w h2 M2 => ?_)
      refine rd_op (ov_iaddr rfl rfl (n_idx 1 (i := i) h0 (by omega))) ?_
      refine rd_setO (k := 1) (i := i.toNat) M2 rfl rfl rfl (by omega) rfl (fun h3 M3 => ?_)
      have M4 : Mem h3 (⟨.os id ver 0 x0.length, 43, 1, ef.set i.toNat (.os j w 0 (ix x0 i).length)⟩ :: (I.set i.toNat ⟨.os j w 0 (ix x0 i).length, 89, 1, List.replicate (ix x0 i).length (vu32 0#32)⟩ ++ R_)) :=
        ns_back (C := [⟨.os id ver 0 x0.length, 43, 1, ef.set i.toNat (.os j w 0 (ix x0 i).length)⟩]) (Mem.sub M3 (.cons_cons _ (.cons_cons _ (List.Sublist.append_right (List.eraseIdx_sublist ..) _)))) (by omega)
      refine rd_nil (pn_seq (rc_region (mV rfl (mV rfl ?_))))
      refine rd_op (ov_iaddr rfl rfl (n_idx 1 (i := i) h0 (by omega))) ?_
      refine rd_op (ov_elem (k := 0) M4 rfl rfl (List.getElem?_set_self (by omega)) rfl) (mV rfl ?_)
      obtain ⟨nw, sr, ar⟩ := src_of (t := tU32) (h := h3) q0
      have hk : (⟨.os id ver 0 x0.length, 43, 1, ef.set i.toNat (.os j w 0 (ix x0 i).length)⟩ :: (I.set i.toNat ⟨.os j w 0 (ix x0 i).length, 89, 1, List.replicate (ix x0 i).length (vu32 0#32)⟩ ++ R_))[i.toNat + 1]? = some (⟨.os j w 0 (ix x0 i).length, 89, 1, List.replicate (ix x0 i).length (vu32 0#32)⟩ : Ent) := by
        rw [List.getElem?_cons_succ, List.getElem?_append_left (by rw [List.length_set]; omega), List.getElem?_set_self (by omega)]
      refine rd_copy M4 rfl rfl hk sr (by rw [ar.length, List.length_replicate]) (fun h5 M5 => ?_)
      rw [List.set_cons_succ, List.set_append_left _ _ (by rw [List.length_set]; omega), List.set_set] at M5
      refine rd_nil (pn_blk (pn_seq (rc_region (rd_op (ov_bin rfl rfl i_add) (mV rfl (rd_nil (pn_again ?_)))))))
      have hinc : wr (i + 1) = i + 1 := wr_of (by omega) (by have := hE.o; omega)
      refine rc_weak ?_ (dup_L1 q1 hE K m (i := i + 1) (by omega) (by omega) (by omega) ⟨M5, ?_, rfl, _, _, _, rfl⟩)
      · exact sub_cons (by show some (vi (wr (i + 1))) = _; rw [hinc]) (sB rfl)
      · have e := dup_z (l := x0) (i := i.toNat) (by omega)
        rw [← ix_lt h0 hlt] at e
        rw [show (i + 1).toNat = i.toNat + 1 by omega, ← e]
        exact ns_put H.f ar rfl (by omega) (.inr ⟨_, _, _, rfl⟩)
    · simp only [decide_eq_false_iff_not] at hc; omega
theorem dup_own {f n : Nat} (X : FnText Tryz.prog f [] n 1 ac231 [(2, none)]) {x0 : List (List (BitVec 32))} {v0 : PV} (r0 : (tSl (tSl tU32)).R x0 v0) (hE : RB x0) {h_ : Heap} {R_ : List Ent} (M_ : Mem h_ R_) : ∃ r k, FnX Tryz.prog f [v0] h_ r k ∧ ∃ ef I, OR k x0 r ef I R_ := by
  refine fnX X (by simp) ?_
  refine rc_seq (rc_region (rd_op (v := nilS) (ov_move rfl) (rd_nil (pn_seq (rc_seq (rc_region ?_))))))
  refine mV rfl (rd_op (ov_bi rfl (sl_len r0 Tryz.underlying42 _)) ?_)
  have ff : fits x0.length 24 = true := fits_of (by have := hE.o; omega) (by have := hE.o; omega)
  refine rd_makeO (sz := 1) (ty := 43) (n := x0.length) (zz := nilS) M_ rfl rfl rfl rfl rfl ff (fun id ver h2 M2 => ?_)
  have M3 := ns_new (C := [⟨.os id ver 0 x0.length, 43, 1, List.replicate x0.length nilS⟩]) M2 89 1 x0.length
  refine mV rfl (rd_nil (pn_seq (rc_seq (rc_seq (rc_region ?_)))))
  refine mV rfl (rd_op (ov_bi rfl (sl_len r0 Tryz.underlying42 _)) (mV rfl (rd_nil (pn_seq (rc_block ?_)))))
  refine wC (dup_L1 (x0 := x0) r0 hE (R_ := R_) ?_ x0.length (i := 0) (by omega) (by omega) (by omega) ⟨M3, (by rw [show Int.toNat 0 = 0 from rfl, List.take_zero, List.nil_append, Nat.sub_zero]; exact ns_rep (t := tU32) (ty := 89) x0.length), rfl, _, _, _, rfl⟩) rfl
  · intro h ef I H
    refine px_blk (pn_seq (rc_seq (rc_region (mV rfl (mV rfl (rd_nil (pn_seq ?_)))))))
    exact rc_retX (.tmp rfl .nil) ⟨ef, I, H⟩
theorem OR.deep {h : Heap} {rs : List (List (BitVec 32))} {b : PV} {ef : List PV} {I R : List Ent} (H : OR h rs b ef I R) (hb : RB rs) : ∃ r, Deep Tryz.prog h b r ∧ (tSl (tSl tU32)).R rs r :=
  ns_deep (P := Tryz.prog) (C := [⟨b, 43, 1, ef⟩]) (k := 0) H.M rfl H.nb H.f (by have := hb.o; omega)
theorem f117_ok {x0 : List (List (BitVec 32))} {v0 : PV} (r0 : (tSl (tSl tU32)).R x0 v0) (hE : RB x0) : ∃ r, FnR Tryz.prog 117 [v0] r ∧ (tSl (tSl tU32)).R (action_duplicate x0) r := by
  obtain ⟨r, k, X, ef, I, H⟩ := dup_own text117 r0 hE (Mem.nil ⟨0, []⟩)
  obtain ⟨d, hd, hr⟩ := H.deep hE
  exact ⟨d, FnR.of_X X hd, hr⟩

def RF221 (res : Bool) (r : PV) : Prop := r = vb res
theorem f221_ok {x0 : UInt8} : FnR Tryz.prog 221 [vu8 x0] (vb (lexer_isLetter x0)) := by
  refine fnS (R := RF221) text221 (fun _ h => h) rfl fun res hres => ?_
  unfold lexer_isLetter at hres
  refine sR ?_
  refine mB rfl ?_
  refine nR ?_
  refine mV rfl ?_
  refine rd_op (ov_bin (a := vu8 x0) (b := vu8 (97 : UInt8)) rfl rfl y_geq) ?_
  refine mV rfl ?_
  refine rd_cutn 3 (d := 8) (v := vb ((decide ((97 : UInt8) ≤ x0)) && (decide (x0 ≤ (122 : UInt8))))) ?_ ?_
  · intro S Q r
    cases a5 : (decide ((97 : UInt8) ≤ x0))
    · exact gN 2 rfl rfl rfl rfl rfl rfl
    · intro k
      have a2 := a5
      try simp only [qa, qaD] at a2
      refine rd_yes rfl rfl (ov_move rfl) ?_
      refine rd_yes rfl rfl (ov_bin (a := vu8 x0) (b := vu8 (122 : UInt8)) rfl rfl y_leq) ?_
      exact gK rfl rfl rfl rfl rfl k
  refine mV rfl ?_
  refine rd_cutn 7 (d := 16) (v := vb (((decide ((97 : UInt8) ≤ x0)) && (decide (x0 ≤ (122 : UInt8)))) || ((decide ((65 : UInt8) ≤ x0)) && (decide (x0 ≤ (90 : UInt8)))))) ?_ ?_
  · intro S Q r
    cases a4 : ((decide ((97 : UInt8) ≤ x0)) && (decide (x0 ≤ (122 : UInt8))))
    · intro k
      have a0 := a4
      try simp only [qa, qaD] at a0
      refine rd_yes rfl rfl (ov_move rfl) ?_
      refine rd_yes rfl rfl (ov_bin (a := vu8 x0) (b := vu8 (65 : UInt8)) rfl rfl y_geq) ?_
      refine rd_yes rfl rfl (ov_move rfl) ?_
      refine rd_cutn 3 (d := 15) (v := vb ((decide ((65 : UInt8) ≤ x0)) && (decide (x0 ≤ (90 : UInt8))))) ?_ ?_
      · intro S Q r
        cases a3 : (decide ((65 : UInt8) ≤ x0))
        · intro k
          refine rd_skip rfl rfl ?_
          refine rd_skip rfl rfl ?_
          refine rd_yes (v := vb false) rfl rfl (ov_pick rfl rfl rfl rfl) ?_
          exact wD k rfl
        · intro k
          have a1 := a3
          try simp only [qa, qaD] at a1
          refine rd_yes rfl rfl (ov_move rfl) ?_
          refine rd_yes rfl rfl (ov_bin (a := vu8 x0) (b := vu8 (90 : UInt8)) rfl rfl y_leq) ?_
          refine rd_yes (v := vb (decide (x0 ≤ (90 : UInt8)))) rfl rfl (ov_pick rfl rfl rfl rfl) ?_
          exact wD k rfl
      exact gK rfl rfl rfl rfl rfl k
    · exact gN 6 rfl rfl rfl rfl rfl rfl
  refine mV rfl ?_
  refine nS ?_
  exact rR hres rfl rfl rfl

def RF222 (res : Int) (r : PV) : Prop := r = vi res
theorem lexer_extent_L1_ok {S : List Fr} {res : Int} {x0 : List UInt8} {x1 : UInt8 → Bool} {v1 : PV} (r1 : (tFn Tryz.prog tU8 tB).R x1 v1) (hs : x0.length ≤ 1000) {K0 : Int → Int}
    (b1 : ∀ {a0 : Int}, K0 a0 = res → PX Tryz.prog 0 S (QR Tryz.prog [(4, none)] (RF222 res)) [(5, vi a0)] ⟨0, []⟩) :
    ∀ {m : Nat} {a0 : Int} (b0 : m = Int.toNat ((x0.length : Int) - a0)) (a6 : 0 ≤ a0), lexer_extent_L1 x0 x1 K0 m a0 = res → RC Tryz.prog (.loop ac222_L1) S (QR Tryz.prog [(4, none)] (RF222 res)) [(5, vi a0), (1, v1), (0, vs x0)] ⟨0, []⟩ := by
  intro m
  induction m with
  | zero =>
    intro a0 b0 a6 hres
    rw [lexer_extent_L1] at hres
    refine rc_loop ?_
    refine rc_seq ?_
    refine sR ?_
    refine mV rfl ?_
    refine mV rfl ?_
    refine rd_op (ov_bi rfl (str_len Tryz.underlying9)) ?_
    refine bN i_lss rfl rfl ?_
    refine mV rfl ?_
    refine rd_cutn 6 (d := 16) (v := vb ((decide (a0 < (x0.length : Int))) && (x1 (ix x0 a0)))) ?_ ?_
    · intro S Q r
      cases a5 : (decide (a0 < (x0.length : Int)))
      · exact gN 5 rfl rfl rfl rfl rfl rfl
      · intro k
        have a1 := a5
        try simp only [qa, qaD] at a1
        refine rd_yes rfl rfl (ov_move rfl) ?_
        refine rd_yes rfl rfl (ov_move rfl) ?_
        refine rd_yes rfl rfl (ov_move rfl) ?_
        refine rd_yes rfl rfl (ov_indexS rfl rfl (str_idx Tryz.underlying9 (by omega) (by omega))) ?_
        refine rd_ycallF rfl rfl rfl r1 rfl (show tU8.R (ix x0 a0) (vu8 (ix x0 a0)) from rfl) (fun a8 a4 => ?_)
        have a4 : a8 = vb (x1 (ix x0 a0)) := a4; subst a4
        exact gK rfl rfl rfl rfl rfl k
    refine nS ?_
    refine rc_cond rfl ?_ ?_ <;> intro c <;> try simp only [qa, qaD] at c
    · omega
    refine rc_exit ?_
    refine px_seq ?_
    refine px_again ?_
    exact wP (b1  hres) rfl
  | succ m ih =>
    intro a0 b0 a6 hres
    rw [lexer_extent_L1] at hres
    refine rc_loop ?_
    refine rc_seq ?_
    refine sR ?_
    refine mV rfl ?_
    refine mV rfl ?_
    refine rd_op (ov_bi rfl (str_len Tryz.underlying9)) ?_
    refine bN i_lss rfl rfl ?_
    refine mV rfl ?_
    refine rd_cutn 6 (d := 16) (v := vb ((decide (a0 < (x0.length : Int))) && (x1 (ix x0 a0)))) ?_ ?_
    · intro S Q r
      cases a7 : (decide (a0 < (x0.length : Int)))
      · exact gN 5 rfl rfl rfl rfl rfl rfl
      · intro k
        have a3 := a7
        try simp only [qa, qaD] at a3
        refine rd_yes rfl rfl (ov_move rfl) ?_
        refine rd_yes rfl rfl (ov_move rfl) ?_
        refine rd_yes rfl rfl (ov_move rfl) ?_
        refine rd_yes rfl rfl (ov_indexS rfl rfl (str_idx Tryz.underlying9 (by omega) (by omega))) ?_
        refine rd_ycallF rfl rfl rfl r1 rfl (show tU8.R (ix x0 a0) (vu8 (ix x0 a0)) from rfl) (fun a9 a2 => ?_)
        have a2 : a9 = vb (x1 (ix x0 a0)) := a2; subst a2
        exact gK rfl rfl rfl rfl rfl k
    refine nS ?_
    refine rc_br hres rfl ?_ ?_ <;> clear hres <;> intro c hres <;> try simp only [qa, qaD] at c
    · refine rc_skip ?_
      refine pn_seq ?_
      refine rc_block ?_
      refine rc_region ?_
      refine mV rfl ?_
      refine bN i_add rfl rfl ?_
      refine mV rfl ?_
      refine rd_nil ?_
      refine pn_blk ?_
      refine pn_again ?_
      have hinc : wr (a0 + 1) = a0 + 1 := wr_of (by omega) (by omega)
      erw [hinc]
      exact wC (ih   (by omega) (by omega) hres) rfl
    · refine rc_exit ?_
      refine px_seq ?_
      refine px_again ?_
      exact wP (b1  hres) rfl

theorem f222_ok {x0 : List UInt8} {x1 : UInt8 → Bool} {v1 : PV} (r1 : (tFn Tryz.prog tU8 tB).R x1 v1) (hs : x0.length ≤ 1000) : FnR Tryz.prog 222 [vs x0, v1] (vi (lexer_extent x0 x1)) := by
  refine fnS (R := RF222) text222 (fun _ h => h) rfl fun res hres => ?_
  unfold lexer_extent at hres
  refine sR ?_
  refine mI rfl ?_
  refine nR ?_
  refine mI rfl ?_
  refine nS ?_
  refine rc_seq ?_
  refine rc_block ?_
  refine wC (lexer_extent_L1_ok r1 hs ?_  rfl (by omega) hres) rfl
  · intro a0 hres
    refine px_blk ?_
    refine pn_seq ?_
    refine sR ?_
    refine mV rfl ?_
    refine mV rfl ?_
    refine nS ?_
    exact rR hres rfl rfl rfl

def RF224 (res : Bool) (r : PV) : Prop := r = vb res
theorem f224_ok {x0 : UInt8} : FnR Tryz.prog 224 [vu8 x0] (vb (lexer_isDigit x0)) := by
  refine fnS (R := RF224) text224 (fun _ h => h) rfl fun res hres => ?_
  unfold lexer_isDigit at hres
  refine sR ?_
  refine mB rfl ?_
  refine nR ?_
  refine mV rfl ?_
  refine rd_op (ov_bin (a := vu8 x0) (b := vu8 (48 : UInt8)) rfl rfl y_geq) ?_
  refine mV rfl ?_
  refine rd_cutn 3 (d := 8) (v := vb ((decide ((48 : UInt8) ≤ x0)) && (decide (x0 ≤ (57 : UInt8))))) ?_ ?_
  · intro S Q r
    cases a1 : (decide ((48 : UInt8) ≤ x0))
    · exact gN 2 rfl rfl rfl rfl rfl rfl
    · intro k
      have a0 := a1
      try simp only [qa, qaD] at a0
      refine rd_yes rfl rfl (ov_move rfl) ?_
      refine rd_yes rfl rfl (ov_bin (a := vu8 x0) (b := vu8 (57 : UInt8)) rfl rfl y_leq) ?_
      exact gK rfl rfl rfl rfl rfl k
  refine mV rfl ?_
  refine nS ?_
  exact rR hres rfl rfl rfl

def RF223 (res : Bool) (r : PV) : Prop := r = vb res
theorem f223_ok {x0 : UInt8} : FnR Tryz.prog 223 [vu8 x0] (vb (lexer_IsIdentifier_1 x0)) := by
  refine fnS (R := RF223) text223 (fun _ h => h) rfl fun res hres => ?_
  unfold lexer_IsIdentifier_1 at hres
  refine sR ?_
  refine mB rfl ?_
  refine nR ?_
  refine mV rfl ?_
  obtain ⟨a0, a5, hres⟩ := let_ex hres
  have a3 := f221_ok (x0 := x0)  
  rw [a5] at a3
  refine cL a3 rfl rfl (clL_cons rfl clL_nil) ?_
  refine mV rfl ?_
  refine rd_cutn 3 (d := 8) (v := vb (a0 || (lexer_isDigit x0))) ?_ ?_
  · intro S Q r
    cases a6 : a0
    · intro k
      have a1 := a6
      try simp only [qa, qaD] at a1
      refine rd_yes rfl rfl (ov_move rfl) ?_
      have a7 := f224_ok (x0 := x0)  
      refine rd_ycall rfl rfl (cv_fn rfl rfl (clL_cons rfl clL_nil) a7) ?_
      exact gK rfl rfl rfl rfl rfl k
    · exact gN 2 rfl rfl rfl rfl rfl rfl
  refine mV rfl ?_
  refine rd_cutn 3 (d := 12) (v := vb ((a0 || (lexer_isDigit x0)) || (decide (x0 = (95 : UInt8))))) ?_ ?_
  · intro S Q r
    cases a4 : (a0 || (lexer_isDigit x0))
    · intro k
      have a2 := a4
      try simp only [qa, qaD] at a2
      refine rd_yes rfl rfl (ov_move rfl) ?_
      refine rd_yes rfl rfl (ov_bin (a := vu8 x0) (b := vu8 (95 : UInt8)) rfl rfl y_eql) ?_
      exact gK rfl rfl rfl rfl rfl k
    · exact gN 2 rfl rfl rfl rfl rfl rfl
  refine mV rfl ?_
  refine nS ?_
  exact rR hres rfl rfl rfl

theorem tfn223 : (tFn Tryz.prog tU8 tB).R lexer_IsIdentifier_1 (.fn (.func 223) [] []) := tFn_of fun a va ra => by obtain rfl := ra; exact ⟨_, f223_ok, rfl⟩

def RF169 (res : Bool) (r : PV) : Prop := r = vb res
theorem f169_ok {x0 : List UInt8} : FnR Tryz.prog 169 [vs x0] (vb (lexer_IsIdentifier x0)) := by
  refine fnS (R := RF169) text169 (fun _ h => h) rfl fun res hres => ?_
  unfold lexer_IsIdentifier at hres
  refine sR ?_
  refine mB rfl ?_
  refine nS ?_
  refine rc_seq ?_
  refine sR ?_
  refine mV rfl ?_
  refine rd_op (ov_bi rfl (str_len Tryz.underlying9)) ?_
  refine bN i_eql rfl rfl ?_
  refine mV rfl ?_
  refine rd_cutn 4 (d := 10) (v := vb ((decide ((x0.length : Int) = 0)) || (decide (16 < (x0.length : Int))))) ?_ ?_
  · intro S Q r
    cases a4 : (decide ((x0.length : Int) = 0))
    · intro k
      have a0 := a4
      try simp only [qa, qaD] at a0
      refine rd_yes rfl rfl (ov_move rfl) ?_
      refine rd_yes rfl rfl (ov_bi rfl (str_len Tryz.underlying9)) ?_
      refine rd_yes rfl rfl (ov_bin rfl rfl i_gtr) ?_
      exact gK rfl rfl rfl rfl rfl k
    · exact gN 3 rfl rfl rfl rfl rfl rfl
  refine mV rfl ?_
  refine rd_cutn 5 (d := 16) (v := vb (((decide ((x0.length : Int) = 0)) || (decide (16 < (x0.length : Int)))) || (!(lexer_isLetter (ix x0 0))))) ?_ ?_
  · intro S Q r
    cases a3 : ((decide ((x0.length : Int) = 0)) || (decide (16 < (x0.length : Int))))
    · intro k
      have a1 := a3
      try simp only [qa, qaD] at a1
      refine rd_yes rfl rfl (ov_move rfl) ?_
      refine rd_yes rfl rfl (ov_indexS rfl rfl (str_idx (i := 0) Tryz.underlying9 (by omega) (by omega))) ?_
      have a6 := f221_ok (x0 := (ix x0 0))  
      refine rd_ycall rfl rfl (cv_fn rfl rfl (clL_cons rfl clL_nil) a6) ?_
      refine rd_yes rfl rfl (ov_not rfl) ?_
      exact gK rfl rfl rfl rfl rfl k
    · exact gN 4 rfl rfl rfl rfl rfl rfl
  refine nS ?_
  refine rc_br hres rfl ?_ ?_ <;> clear hres <;> intro c hres <;> try simp only [qa, qaD] at c
  · refine sR ?_
    refine mB rfl ?_
    refine nS ?_
    exact rR hres rfl rfl rfl
  · refine rc_skip ?_
    refine pn_seq ?_
    refine sR ?_
    refine mV rfl ?_
    obtain ⟨a7, a2, hres⟩ := let_ex hres
    have a5 := f222_ok (x0 := x0) tfn223 (by first | assumption | omega | (rw [wr_of (by omega) (by omega)]; omega) | (have hk := rval rfl (And.right (And.left (by assumption))); omega) | (have hk := rval (by assumption) (by assumption); omega) | (have hk := rval (by assumption) (And.left (by assumption)); omega) | (have hk := rval (by assumption) (And.left (And.left (by assumption))); have hz := rslc (by assumption); omega) | (simp; done) | (simp only [List.length_append, List.length_nil, List.length_cons]; omega) | (have hk := (chk_ok (by assumption) (by assumption)).1; omega) | (simp only [List.length_cons, List.length_nil]; omega) | (simp only [List.length_append]; have hk := (chk_ok (by assumption) (by assumption)).1; omega) | (simp only [List.length_append, List.length_nil]; have hk := (chk_ok (by assumption) (by assumption)).1; omega))
    rw [a2] at a5
    refine cL a5 rfl rfl (clL_cons rfl (clL_cons rfl clL_nil)) ?_
    refine mV rfl ?_
    refine rd_op (ov_bi rfl (str_len Tryz.underlying9)) ?_
    refine bN i_eql rfl rfl ?_
    refine mV rfl ?_
    refine nS ?_
    exact rR hres rfl rfl rfl

def RF171 (res : Bool) (r : PV) : Prop := r = vb res
theorem f171_ok {x0 : api_Field} {c0 : api_Field} {v0 w0 : PV} (r0 : api_Field.t.R x0 v0) (a0 : api_Field.t.R c0 w0) : FnR Tryz.prog 171 [v0, .fp w0] (vb (action_declaration_1 x0 c0)) := by
  refine fnS (R := RF171) text171 (fun _ h => h) rfl fun res hres => ?_
  unfold action_declaration_1 at hres
  refine sR ?_
  refine rd_op (ov_box rfl (TR.cnt api_Field.t r0)) ?_
  refine mB rfl ?_
  refine nR ?_
  refine fL rfl (api_Field.g_Name r0) rfl rfl ?_
  refine fL rfl (api_Field.g_Name a0) rfl rfl ?_
  refine rd_op (ov_bin (a := vs x0.Name) (b := vs c0.Name) rfl rfl str_eql) ?_
  refine mV rfl ?_
  refine nS ?_
  exact rR hres rfl rfl rfl

def RF225 (res : Int) (r : PV) : Prop := r = vi res
theorem slices_IndexFunc__api_Field_api_Field__L1_ok {S : List Fr} {res : Int} {x0 : List api_Field} {x1 : api_Field → Bool} {v0 v1 : PV} (r0 : (tSl api_Field.t).R x0 v0) (r1 : (tFn Tryz.prog api_Field.t tB).R x1 v1) {K0 : Unit → Int}
    (a8 : K0 () = res → PX Tryz.prog 0 S (QR Tryz.prog [(4, none)] (RF225 res)) [] ⟨0, []⟩) :
    ∀ {m : Nat} {a0 : Int} (a7 : m = Int.toNat ((x0.length : Int) - a0)) (a3 : 0 ≤ a0), slices_IndexFunc__api_Field_api_Field__L1 x0 x1 K0 m a0 = res → RC Tryz.prog (.loop ac225_L1) S (QR Tryz.prog [(4, none)] (RF225 res)) [(8, vi a0), (7, vi (x0.length : Int)), (1, v1), (0, v0)] ⟨0, []⟩ := by
  intro m
  induction m with
  | zero =>
    intro a0 a7 a3 hres
    rw [slices_IndexFunc__api_Field_api_Field__L1] at hres
    refine rc_loop ?_
    refine sR ?_
    refine bN i_lss rfl rfl ?_
    refine nS ?_
    refine rc_seq ?_
    refine rc_cond rfl ?_ ?_ <;> intro c <;> try simp only [qa, qaD] at c
    · omega
    refine rc_exit ?_
    refine px_seq ?_
    refine px_again ?_
    exact wP (a8  hres) rfl
  | succ m ih =>
    intro a0 a7 a3 hres
    rw [slices_IndexFunc__api_Field_api_Field__L1] at hres
    refine rc_loop ?_
    refine sR ?_
    refine bN i_lss rfl rfl ?_
    refine nS ?_
    refine rc_seq ?_
    refine rc_cond rfl ?_ ?_ <;> intro c <;> try simp only [qa, qaD] at c
    rotate_left
    · omega
    refine rc_skip ?_
    refine pn_seq ?_
    refine rc_seq ?_
    refine rc_block ?_
    refine sR ?_
    refine mV rfl ?_
    refine mV rfl ?_
    refine nR ?_
    refine mV rfl ?_
    refine mV rfl ?_
    refine mV rfl ?_
    obtain ⟨a4, a5, a2⟩ := sl_idx (i := a0) r0 (by omega) (by omega)
    refine rd_op (ov_iaddr rfl rfl a5) ?_
    refine lD a2 rfl rfl rfl ?_
    refine rd_callF rfl r1 rfl (show api_Field.t.R (ix x0 a0) a4 from a2) (fun a6 a1 => ?_)
    have a1 : a6 = vb (x1 (ix x0 a0)) := a1; subst a1
    refine nS ?_
    refine rc_br hres rfl ?_ ?_ <;> clear hres <;> intro c hres <;> try simp only [qa, qaD] at c
    · refine sR ?_
      refine mV rfl ?_
      refine mV rfl ?_
      refine nS ?_
      exact rR hres rfl rfl rfl
    · refine rc_skip ?_
      refine pn_blk ?_
      refine pn_seq ?_
      refine rc_region ?_
      refine bN i_add rfl rfl ?_
      refine mV rfl ?_
      refine rd_nil ?_
      refine pn_again ?_
      have hbd := sl_bound r0
      have hinc : wr (a0 + 1) = a0 + 1 := wr_of (by omega) (by omega)
      erw [hinc]
      exact wC (ih   (by omega) (by omega) hres) rfl

theorem f225_ok {x0 : List api_Field} {x1 : api_Field → Bool} {v0 v1 : PV} (r0 : (tSl api_Field.t).R x0 v0) (r1 : (tFn Tryz.prog api_Field.t tB).R x1 v1) : FnR Tryz.prog 225 [v0, v1] (vi (slices_IndexFunc__api_Field_api_Field_ x0 x1)) := by
  refine fnS (R := RF225) text225 (fun _ h => h) rfl fun res hres => ?_
  unfold slices_IndexFunc__api_Field_api_Field_ at hres
  refine sR ?_
  refine mI rfl ?_
  refine nS ?_
  refine rc_seq ?_
  refine sR ?_
  refine mV rfl ?_
  refine rd_op (ov_bi rfl (sl_len r0 Tryz.underlying23 _)) ?_
  refine mI rfl ?_
  refine nS ?_
  refine rc_block ?_
  refine wC (slices_IndexFunc__api_Field_api_Field__L1_ok r0 r1 ?_  rfl (by omega) hres) rfl
  · intro  hres
    refine px_blk ?_
    refine pn_seq ?_
    refine sR ?_
    refine mI rfl ?_
    refine nS ?_
    exact rR hres rfl rfl rfl

def RF170 (res : Bool) (r : PV) : Prop := r = vb res
theorem f170_ok {x0 : List api_Field} {x1 : api_Field → Bool} {v0 v1 : PV} (r0 : (tSl api_Field.t).R x0 v0) (r1 : (tFn Tryz.prog api_Field.t tB).R x1 v1) : FnR Tryz.prog 170 [v0, v1] (vb (slices_ContainsFunc__api_Field_api_Field_ x0 x1)) := by
  refine fnS (R := RF170) text170 (fun _ h => h) rfl fun res hres => ?_
  unfold slices_ContainsFunc__api_Field_api_Field_ at hres
  refine sR ?_
  refine mB rfl ?_
  refine nR ?_
  refine mV rfl ?_
  refine mV rfl ?_
  obtain ⟨a2, a1, hres⟩ := let_ex hres
  have a0 := f225_ok  r0 r1 
  rw [a1] at a0
  refine cL a0 rfl rfl (clL_cons (TR.clo (tSl api_Field.t) r0) (clL_cons (TR.clo (tFn Tryz.prog api_Field.t tB) r1) clL_nil)) ?_
  refine bN i_geq rfl rfl ?_
  refine mV rfl ?_
  refine nS ?_
  exact rR hres rfl rfl rfl

def RF103 (res : Int) (r : PV) : Prop := r = vi res
theorem action_declaration_L1_ok {S : List Fr} {res : Int} {x0 : api_Action} {b9 : Bool} {v0 a4 : PV} (r0 : api_Action.t.R x0 v0) (d5 : lexer_IsIdentifier x0.Name = b9) (c1 : (!b9) = false) (b2 : ((decide (4 < (x0.Params.length : Int))) || (decide (12 < (x0.Body.length : Int)))) = false) (b7 : (tSl api_Field.t).R x0.Params a4) {K1 : Unit → Int}
    (d8 : ∀ {h : Heap} (M0 : Mem h []), K1 () = res → PX Tryz.prog 1 S (QR Tryz.prog [(2, none)] (RF103 res)) [] h) :
    ∀ {m : Nat} {a0 : Int} (d4 : m = Int.toNat ((x0.Params.length : Int) - a0)) (c0 : 0 ≤ a0) {h : Heap} (M0 : Mem h []), action_declaration_L1 x0 K1 m a0 = res → RC Tryz.prog (.loop ac103_L1) S (QR Tryz.prog [(2, none)] (RF103 res)) [(24, vi a0), (23, vi (x0.Params.length : Int)), (22, a4), (1, .fp v0)] h := by
  have b0 := c1
  try simp only [qa, qaD] at b0
  have a8 := b2
  try simp only [qa, qaD] at a8
  intro m
  induction m with
  | zero =>
    intro a0 d4 c0 h M0 hres
    rw [action_declaration_L1] at hres
    refine rc_loop ?_
    refine sR ?_
    refine bN i_lss rfl rfl ?_
    refine nS ?_
    refine rc_seq ?_
    refine rc_cond rfl ?_ ?_ <;> intro c <;> try simp only [qa, qaD] at c
    · omega
    refine rc_exit ?_
    refine px_seq ?_
    refine px_again ?_
    exact wP (d8 (Mem.sub M0 .slnil) hres) rfl
  | succ m ih =>
    intro a0 d4 c0 h M0 hres
    rw [action_declaration_L1] at hres
    refine rc_loop ?_
    refine sR ?_
    refine bN i_lss rfl rfl ?_
    refine nS ?_
    refine rc_seq ?_
    refine rc_cond rfl ?_ ?_ <;> intro c <;> try simp only [qa, qaD] at c
    rotate_left
    · omega
    refine rc_skip ?_
    refine pn_seq ?_
    refine rc_seq ?_
    refine rc_block ?_
    refine sR ?_
    refine mV rfl ?_
    obtain ⟨a1, d2, a3⟩ := sl_idx (i := a0) b7 (by omega) (by omega)
    refine rd_op (ov_iaddr rfl rfl d2) ?_
    refine lD a3 rfl rfl rfl ?_
    refine rd_allocO (x := .agg [vs [], vi 0]) M0 rfl rfl (fun c7 c6 d7 c5 => ?_)
    refine mV rfl ?_
    refine rd_storeO (k := 0) (v := a1) c5 rfl rfl rfl (TR.cnt api_Field.t a3) (fun d0 a6 => ?_)
    replace a6 : Mem d0 [⟨.op c7 c6 0, 166, 2, [a1]⟩] := a6
    refine nS ?_
    refine rc_block ?_
    refine rc_seq ?_
    refine rc_regionS ?_
    refine rs_step ?_
    refine rd_op (ov_faddrO rfl) ?_
    refine rs_back ?_
    refine rs_step ?_
    refine rd_op (ov_loadf (k := 0) a6 rfl rfl (api_Field.g_Name a3)) ?_
    refine rs_back ?_
    refine rs_step ?_
    obtain ⟨a2, c4, hres⟩ := let_ex hres
    have b8 := f169_ok (x0 := (ix x0.Params a0).Name)  
    rw [c4] at b8
    refine cL b8 rfl rfl (clL_cons rfl clL_nil) ?_
    refine rs_back ?_
    refine rs_step ?_
    refine rd_op (ov_not rfl) ?_
    refine rs_back ?_
    refine rs_step ?_
    refine mV rfl ?_
    refine rs_back ?_
    refine rs_freezeP (k := 0) (E' := [(29, vb (!a2)), (33, vb (!a2)), (32, vb a2), (31, vs ((ix x0.Params a0).Name)), (3, vi a0), (4, .fp a1), (28, a1), (27, .fp a1), (26, vi a0), (25, vb (decide (a0 < (x0.Params.length : Int)))), (24, vi a0), (23, vi (x0.Params.length : Int)), (22, a4), (1, .fp v0)]) a6 rfl (frz_keep rfl (frz_keep rfl (frz_keep rfl (frz_keep rfl (frz_keep rfl (frz_turn rfl (frz_keep rfl (frz_keep rfl (frz_keep rfl (frz_keep rfl (frz_keep rfl (frz_keep rfl (frz_keep rfl (frz_keep rfl frz_nil)))))))))))))) (fun b5 a7 => ?_)
    replace a7 : Mem b5 [] := a7
    refine rs_nil ?_
    refine pn_seq ?_
    refine rc_br hres rfl ?_ ?_ <;> clear hres <;> intro c hres <;> try simp only [qa, qaD] at c
    · refine sR ?_
      refine mI rfl ?_
      refine nS ?_
      exact rR hres rfl rfl rfl
    · refine sR ?_
      refine fL rfl (api_Field.g_Width a3) rfl rfl ?_
      refine bN i_lss rfl rfl ?_
      refine mV rfl ?_
      refine rd_cutn 4 (d := 42) (v := vb ((decide (((ix x0.Params a0).Width) < 1)) || (decide (32 < ((ix x0.Params a0).Width))))) ?_ ?_
      · intro S Q r
        cases b6 : (decide (((ix x0.Params a0).Width) < 1))
        · intro k
          have a9 := b6
          try simp only [qa, qaD] at a9
          refine rd_yes rfl rfl (ov_faddr rfl (api_Field.g_Width a3)) ?_
          refine rd_yes rfl rfl (ov_load rfl rfl rfl) ?_
          refine rd_yes rfl rfl (ov_bin rfl rfl i_gtr) ?_
          exact gK rfl rfl rfl rfl rfl k
        · exact gN 3 rfl rfl rfl rfl rfl rfl
      refine mV rfl ?_
      refine nS ?_
      refine rc_br hres rfl ?_ ?_ <;> clear hres <;> intro c hres <;> try simp only [qa, qaD] at c
      · refine sR ?_
        refine mI rfl ?_
        refine nS ?_
        exact rR hres rfl rfl rfl
      · refine sR ?_
        obtain ⟨a5, d1, c2⟩ := api_Action.g_Params r0
        refine fA rfl d1 ?_
        refine lD c2 rfl rfl rfl ?_
        refine mV rfl ?_
        refine rd_weak (E0 := [(46, vi a0), (45, a5), (44, .fp a5), (34, vb ((decide (((ix x0.Params a0).Width) < 1)) || (decide (32 < ((ix x0.Params a0).Width))))), (42, vb ((decide (((ix x0.Params a0).Width) < 1)) || (decide (32 < ((ix x0.Params a0).Width))))), (38, vb (decide (((ix x0.Params a0).Width) < 1))), (37, vb (decide (((ix x0.Params a0).Width) < 1))), (36, vi ((ix x0.Params a0).Width)), (35, .fp (vi ((ix x0.Params a0).Width))), (29, vb (!a2)), (33, vb (!a2)), (32, vb a2), (31, vs ((ix x0.Params a0).Name)), (3, vi a0), (4, .fp a1), (28, a1), (27, .fp a1), (26, vi a0), (25, vb (decide (a0 < (x0.Params.length : Int)))), (24, vi a0), (23, vi (x0.Params.length : Int)), (22, a4), (1, .fp v0)]) (sB rfl) ?_
        obtain ⟨c8, c9, b3⟩ := sl_sub (P := Tryz.prog) (hf := false) (E := [(46, vi a0), (45, a5), (44, .fp a5), (34, vb ((decide (((ix x0.Params a0).Width) < 1)) || (decide (32 < ((ix x0.Params a0).Width))))), (42, vb ((decide (((ix x0.Params a0).Width) < 1)) || (decide (32 < ((ix x0.Params a0).Width))))), (38, vb (decide (((ix x0.Params a0).Width) < 1))), (37, vb (decide (((ix x0.Params a0).Width) < 1))), (36, vi ((ix x0.Params a0).Width)), (35, .fp (vi ((ix x0.Params a0).Width))), (29, vb (!a2)), (33, vb (!a2)), (32, vb a2), (31, vs ((ix x0.Params a0).Name)), (3, vi a0), (4, .fp a1), (28, a1), (27, .fp a1), (26, vi a0), (25, vb (decide (a0 < (x0.Params.length : Int)))), (24, vi a0), (23, vi (x0.Params.length : Int)), (22, a4), (1, .fp v0)]) (h := b5) (t := api_Field.t) (tt := 23) (x := (.tmp 45)) (lo := none) (hi := (some (.tmp 46))) (a := 0) (b := a0) c2 rfl rfl rfl (show 0 ≤ 0 by omega) (show 0 ≤ a0 by omega) (show a0 ≤ (x0.Params.length : Int) by omega) (fun ad => by kernel_rfl)
        have d3 := sub_len (l := x0.Params) (show 0 ≤ 0 by omega) (show 0 ≤ a0 by omega) (show a0 ≤ (x0.Params.length : Int) by omega)
        refine rd_op (v := c8) (c9) ?_
        have b1 : (tFn Tryz.prog api_Field.t tB).R (fun a_ => action_declaration_1 a_ (ix x0.Params a0)) (.fn (.func 171) [] [.fp a1]) := tFn_ofC (clL_cons (clo_fp (TR.clo api_Field.t a3)) clL_nil) fun a va ra => by exact ⟨_, f171_ok  ra a3 , rfl⟩
        refine rd_op (v := .fn (.func 171) [] [.fp a1]) (ov_mkFunc rfl rfl) ?_
        obtain ⟨d6, b4, hres⟩ := let_ex hres
        have c3 := f170_ok  b3 b1 
        rw [b4] at c3
        refine cL c3 rfl rfl (clL_cons (TR.clo (tSl api_Field.t) b3) (clL_cons (TR.clo (tFn Tryz.prog api_Field.t tB) b1) clL_nil)) ?_
        refine mV rfl ?_
        refine nS ?_
        refine rc_br hres rfl ?_ ?_ <;> clear hres <;> intro c hres <;> try simp only [qa, qaD] at c
        · refine sR ?_
          refine mI rfl ?_
          refine nS ?_
          exact rR hres rfl rfl rfl
        · refine rc_skip ?_
          refine pn_blk ?_
          refine pn_blk ?_
          refine pn_seq ?_
          refine rc_region ?_
          refine bN i_add rfl rfl ?_
          refine mV rfl ?_
          refine rd_nil ?_
          refine pn_again ?_
          have hbd := sl_bound b7
          have hinc : wr (a0 + 1) = a0 + 1 := wr_of (by omega) (by omega)
          erw [hinc]
          exact wC (ih   (by omega) (by omega) (Mem.sub a7 .slnil) hres) rfl

theorem f103_ok {x0 : api_Action} {v0 : PV} (r0 : api_Action.t.R x0 v0) : FnR Tryz.prog 103 [v0] (vi (action_declaration x0)) := by
  refine fnS (R := RF103) text103 (fun _ h => h) rfl fun res hres => ?_
  unfold action_declaration at hres
  refine sR ?_
  refine rd_op (ov_box rfl (TR.cnt api_Action.t r0)) ?_
  refine mI rfl ?_
  refine nS ?_
  refine rc_seq ?_
  refine rc_block ?_
  refine sR ?_
  refine fL rfl (api_Action.g_Name r0) rfl rfl ?_
  obtain ⟨b4, a2, hres⟩ := let_ex hres
  have a8 := f169_ok (x0 := x0.Name)  
  rw [a2] at a8
  refine cL a8 rfl rfl (clL_cons rfl clL_nil) ?_
  refine rd_op (ov_not rfl) ?_
  refine mV rfl ?_
  refine nS ?_
  refine rc_br hres rfl ?_ ?_ <;> clear hres <;> intro a1 hres <;> have a6 := a1 <;> try simp only [qa, qaD] at a6
  · refine sR ?_
    refine mI rfl ?_
    refine nS ?_
    exact rR hres rfl rfl rfl
  · refine sR ?_
    refine gL (api_Action.g_Params r0) rfl rfl rfl fun b3 b0 => ?_
    refine rd_op (ov_bi rfl (sl_len b0 Tryz.underlying23 _)) ?_
    refine bN i_gtr rfl rfl ?_
    refine mV rfl ?_
    refine rd_cutn 5 (d := 20) (v := vb ((decide (4 < (x0.Params.length : Int))) || (decide (12 < (x0.Body.length : Int))))) ?_ ?_
    · intro S Q r
      cases a9 : (decide (4 < (x0.Params.length : Int)))
      · intro k
        have a4 := a9
        try simp only [qa, qaD] at a4
        obtain ⟨b7, b1, a3⟩ := api_Action.g_Body r0
        refine rd_yes rfl rfl (ov_faddr rfl b1) ?_
        refine rd_yes rfl rfl (ov_load rfl (TR.cnt (tSl api_Statement.t) a3) (TR.agg (tSl api_Statement.t) a3)) ?_
        refine rd_yes rfl rfl (ov_bi rfl (sl_len a3 Tryz.underlying95 _)) ?_
        refine rd_yes rfl rfl (ov_bin rfl rfl i_gtr) ?_
        exact gK rfl rfl rfl rfl rfl k
      · exact gN 4 rfl rfl rfl rfl rfl rfl
    refine mV rfl ?_
    refine nS ?_
    refine rc_br hres rfl ?_ ?_ <;> clear hres <;> intro a0 hres <;> have a5 := a0 <;> try simp only [qa, qaD] at a5
    · refine sR ?_
      refine mI rfl ?_
      refine nS ?_
      exact rR hres rfl rfl rfl
    · refine rc_skip ?_
      refine pn_blk ?_
      refine pn_seq ?_
      refine rc_seq ?_
      refine sR ?_
      refine gL (api_Action.g_Params r0) rfl rfl rfl fun b6 a7 => ?_
      refine rd_op (ov_bi rfl (sl_len a7 Tryz.underlying23 _)) ?_
      refine mI rfl ?_
      refine nS ?_
      refine rc_block ?_
      refine wC (action_declaration_L1_ok r0 a2 a1 a0 a7 ?_  rfl (by omega) (Mem.sub (Mem.nil ⟨0, []⟩) .slnil) hres) rfl
      · intro b5 b2 hres
        refine px_blk ?_
        refine pn_seq ?_
        refine sR ?_
        refine mI rfl ?_
        refine nS ?_
        exact rR hres rfl rfl rfl

def RF172 (res : Int × Bool) (r : PV) : Prop := r = .tup [vi res.1, vb res.2]
theorem f172_ok {x0 : api_Program} {x1 : api_FieldRef} {v0 v1 : PV} (r0 : api_Program.t.R x0 v0) (r1 : api_FieldRef.t.R x1 v1) : FnR Tryz.prog 172 [v0, v1] (.tup [vi ((action_width x0 x1).1), vb ((action_width x0 x1).2)]) := by
  refine fnS (R := RF172) text172 (fun _ h => h) rfl fun res hres => ?_
  unfold action_width at hres
  refine sR ?_
  refine rd_op (ov_box rfl (TR.cnt api_Program.t r0)) ?_
  refine rd_op (ov_box rfl (TR.cnt api_FieldRef.t r1)) ?_
  refine mI rfl ?_
  refine mB rfl ?_
  refine nR ?_
  refine gL (api_Program.g_Metadata r0) rfl rfl rfl fun b8 b4 => ?_
  refine mV rfl ?_
  refine nS ?_
  refine rc_seq ?_
  refine sR ?_
  refine fL rfl (api_FieldRef.g_Header r1) rfl rfl ?_
  refine bN (i_neq (b := -1)) rfl rfl ?_
  refine nS ?_
  obtain ⟨a9, a6, hres⟩ := let_ex hres
  refine rc_join (F := fun b S Q => ∀ (a0 : List api_Field) (a1 : PV) (a2 : (tSl api_Field.t).R a0 a1), a9 a0 = res → RC Tryz.prog b S Q [(6, a1), (3, .fp v1)] ⟨0, []⟩) ?_ ?_
  · intro a0 a1 a2  hres
    rw [← a6] at hres
    refine rc_seq ?_
    refine sR ?_
    refine fL rfl (api_FieldRef.g_Field r1) rfl rfl ?_
    refine bN i_lss rfl rfl ?_
    refine mV rfl ?_
    refine rd_cutn 6 (d := 39) (v := vb ((decide (x1.Field < 0)) || (decide ((a0.length : Int) ≤ x1.Field)))) ?_ ?_
    · intro S Q r
      cases a7 : (decide (x1.Field < 0))
      · intro k
        have a5 := a7
        try simp only [qa, qaD] at a5
        refine rd_yes rfl rfl (ov_faddr rfl (api_FieldRef.g_Field r1)) ?_
        refine rd_yes rfl rfl (ov_load rfl rfl rfl) ?_
        refine rd_yes rfl rfl (ov_move rfl) ?_
        refine rd_yes rfl rfl (ov_bi rfl (sl_len a2 Tryz.underlying23 _)) ?_
        refine rd_yes rfl rfl (ov_bin rfl rfl i_geq) ?_
        exact gK rfl rfl rfl rfl rfl k
      · exact gN 5 rfl rfl rfl rfl rfl rfl
    refine nS ?_
    refine rc_br hres rfl ?_ ?_ <;> clear hres <;> intro c hres <;> try simp only [qa, qaD] at c
    · refine sR ?_
      refine mI rfl ?_
      refine mB rfl ?_
      refine nS ?_
      exact rT hres rfl rfl rfl rfl rfl
    · refine rc_skip ?_
      refine pn_seq ?_
      refine sR ?_
      refine mV rfl ?_
      refine fL rfl (api_FieldRef.g_Field r1) rfl rfl ?_
      obtain ⟨c0, b5, b6⟩ := sl_idx (i := x1.Field) a2 (by omega) (by omega)
      refine rd_op (ov_iaddr rfl rfl b5) ?_
      refine fL rfl (api_Field.g_Width b6) rfl rfl ?_
      refine mV rfl ?_
      refine mB rfl ?_
      refine nS ?_
      exact rT hres rfl rfl rfl rfl rfl
  · intro J
    refine rc_br hres rfl ?_ ?_ <;> clear hres <;> intro c hres <;> try simp only [qa, qaD] at c
    · refine rc_seq ?_
      refine sR ?_
      refine fL rfl (api_FieldRef.g_Header r1) rfl rfl ?_
      refine bN i_lss rfl rfl ?_
      refine mV rfl ?_
      refine rd_cutn 7 (d := 22) (v := vb ((decide (x1.Header < 0)) || (decide ((x0.Headers.length : Int) ≤ x1.Header)))) ?_ ?_
      · intro S Q r
        cases a8 : (decide (x1.Header < 0))
        · intro k
          have a3 := a8
          try simp only [qa, qaD] at a3
          refine rd_yes rfl rfl (ov_faddr rfl (api_FieldRef.g_Header r1)) ?_
          refine rd_yes rfl rfl (ov_load rfl rfl rfl) ?_
          obtain ⟨c2, b1, a4⟩ := api_Program.g_Headers r0
          refine rd_yes rfl rfl (ov_faddr rfl b1) ?_
          refine rd_yes rfl rfl (ov_load rfl (TR.cnt (tSl api_Header.t) a4) (TR.agg (tSl api_Header.t) a4)) ?_
          refine rd_yes rfl rfl (ov_bi rfl (sl_len a4 Tryz.underlying22 _)) ?_
          refine rd_yes rfl rfl (ov_bin rfl rfl i_geq) ?_
          exact gK rfl rfl rfl rfl rfl k
        · exact gN 6 rfl rfl rfl rfl rfl rfl
      refine nS ?_
      refine rc_br hres rfl ?_ ?_ <;> clear hres <;> intro c hres <;> try simp only [qa, qaD] at c
      · refine sR ?_
        refine mI rfl ?_
        refine mB rfl ?_
        refine nS ?_
        exact rT hres rfl rfl rfl rfl rfl
      · refine rc_skip ?_
        refine pn_seq ?_
        refine rc_region ?_
        refine gL (api_Program.g_Headers r0) rfl rfl rfl fun c1 b7 => ?_
        refine fL rfl (api_FieldRef.g_Header r1) rfl rfl ?_
        obtain ⟨c3, b3, b0⟩ := sl_idx (i := x1.Header) b7 (by omega) (by omega)
        refine rd_op (ov_iaddr rfl rfl b3) ?_
        refine gL (api_Header.g_Fields b0) rfl rfl rfl fun b9 b2 => ?_
        refine mV rfl ?_
        refine rd_nil ?_
        refine pn_seq (wC (J _ _ b2  hres) rfl)
    · refine rc_skip ?_
      refine pn_seq (wC (J _ _ b4  hres) rfl)

end Go.Proofs.YtmonnlkagniolaaGreat
