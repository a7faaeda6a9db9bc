/-
 The code of each function does what its plain program says.
-/
import Derived.Test.YtklfdkbemkommaaL7W2
set_option linter.unusedVariables false
set_option linter.unusedSimpArgs false
set_option maxRecDepth 100000
namespace Go.Proofs.Ytklfdkbemkommaa
open Go Go.Pb Go.RowKit
/-- patchbay/patchbayref01.valid -/
def RF60 (res : Bool) (r : PV) : Prop := r = vb res
theorem f60_ok {x0 : Int} : FnR Try.prog 60 [vi x0] (vb (ref01_valid x0)) := by
 obtain ⟨res, hres⟩ : ∃ res, ref01_valid x0 = res := ⟨_, rfl⟩
 suffices H : RC Try.prog ac60 [] (QR Try.prog [(2, none)] (RF60 res)) (argE 0 [vi x0]) ⟨0, []⟩ by
  obtain ⟨r, h1, h2⟩ := fnE text60 (by simp) H
  rw [hres]
  have h2 : r = vb res := h2
  rw [← h2]; exact h1
 unfold ref01_valid at hres
 unfold ac60
 refine rc_seq ?_
 refine rc_region ?_
 refine rd_op (v := vb false) (ov_move rfl) ?_
 refine rd_nil ?_
 refine pn_seq ?_
 refine rc_seq ?_
 refine rc_region ?_
 refine rd_op (ov_move rfl) ?_
 refine rd_op (ov_bin rfl rfl i_geq) ?_
 refine rd_op (ov_move rfl) ?_
 refine rd_cut (d := 8) (v := vb ((decide (1 ≤ x0)) && (decide (x0 ≤ 32)))) ?_ ?_
 ·intro S Q r
  simp only [ac60_G1, List.cons_append, List.nil_append, List.append_assoc]
  cases hb101 : (decide (1 ≤ x0))
  ·intro k
   refine rd_skip rfl rfl ?_
   refine rd_skip rfl rfl ?_
   refine rd_op (v := vb false) (ov_pick rfl rfl rfl rfl) ?_
   exact rd_weak (sub_cons rfl (sub_skip rfl (sub_skip rfl (sub_skip rfl (sub_refl _))))) k
  ·intro k
   have hb101' := hb101
   try simp only [qa1, qa2, qa3, qa4, qa5, qa6, qa7, qa8, qa9, qaA, qaB, qaC, qaD] at hb101'
   refine rd_yes rfl rfl (ov_move rfl) ?_
   refine rd_yes rfl rfl (ov_bin rfl rfl i_leq) ?_
   refine rd_op (v := vb (decide (x0 ≤ 32))) (ov_pick rfl rfl rfl rfl) ?_
   exact rd_weak (sub_cons rfl (sub_skip rfl (sub_skip rfl (sub_skip rfl (sub_refl _))))) k
 refine rd_op (ov_move rfl) ?_
 refine rd_nil ?_
 refine pn_seq ?_
 subst hres
 exact rc_retV (.tmp rfl .nil) (deep_closed rfl) rfl

/-- patchbay/patchbayref01.power -/
def RF61 (res : (BitVec 64)) (r : PV) : Prop := r = vu64 res
theorem ref01_power_L1_ok {S : List Fr} {res : (BitVec 64)} {x0 : Int} (hn : x0 ≤ 64) {K0 : (BitVec 64) → (BitVec 64)}
  (hK0 : ∀ (x3_ : BitVec 64), K0 x3_ = res → PX Try.prog 0 S (QR Try.prog [(2, none)] (RF61 res)) [(3, vu64 x3_)] ⟨0, []⟩) :
  ∀ (m : Nat) (x3_ : BitVec 64) (x4_ : Int) (hm1 : m = Int.toNat (x0 - x4_)) (hlo1 : 0 ≤ x4_), ref01_power_L1 K0 m x3_ x4_ = res → RC Try.prog (.loop ac61_L1) S (QR Try.prog [(2, none)] (RF61 res)) [(4, vi x4_), (3, vu64 x3_), (0, vi x0)] ⟨0, []⟩ := by
 intro m
 induction m with
 | zero =>
  intro x3_ x4_ hm1 hlo1 hres
  rw [ref01_power_L1] at hres
  refine rc_loop ?_
  unfold ac61_L1
  refine rc_seq ?_
  refine rc_seq ?_
  refine rc_region ?_
  refine rd_op (ov_move rfl) ?_
  refine rd_op (ov_move rfl) ?_
  refine rd_op (ov_bin rfl rfl i_lss) ?_
  refine rd_nil ?_
  refine pn_seq ?_
  refine rc_cond rfl (fun hc101 => ?_) (fun hc101 => ?_)
  ·exfalso
   try simp only [qa1, qa2, qa3, qa4, qa5, qa6, qa7, qa8, qa9, qaA, qaB, qaC, qaD] at hc101
   omega
  ·have hend := hres
   have hc101' := hc101
   try simp only [qa1, qa2, qa3, qa4, qa5, qa6, qa7, qa8, qa9, qaA, qaB, qaC, qaD] at hc101'
   refine rc_exit ?_
   refine px_seq ?_
   refine px_again ?_
   exact px_weak ((sub_cons rfl (sub_nil _))) (hK0 x3_ hres)
 | succ m ih =>
  intro x3_ x4_ hm1 hlo1 hres
  rw [ref01_power_L1] at hres
  refine rc_loop ?_
  unfold ac61_L1
  refine rc_seq ?_
  refine rc_seq ?_
  refine rc_region ?_
  refine rd_op (ov_move rfl) ?_
  refine rd_op (ov_move rfl) ?_
  refine rd_op (ov_bin rfl rfl i_lss) ?_
  refine rd_nil ?_
  refine pn_seq ?_
  refine rc_cond rfl (fun hc102 => ?_) (fun hc102 => ?_)
  ·have hgo := hres
   have hc102' := hc102
   try simp only [qa1, qa2, qa3, qa4, qa5, qa6, qa7, qa8, qa9, qaA, qaB, qaC, qaD] at hc102'
   refine rc_skip ?_
   refine pn_seq ?_
   refine rc_seq ?_
   refine rc_block ?_
   refine rc_region ?_
   refine rd_op (ov_move rfl) ?_
   refine rd_op (ov_bin (a := vu64 2#64) (b := vu64 x3_) rfl rfl d_mul) ?_
   refine rd_op (ov_move rfl) ?_
   refine rd_nil ?_
   refine pn_blk ?_
   refine pn_seq ?_
   refine rc_region ?_
   refine rd_op (ov_move rfl) ?_
   refine rd_op (ov_bin rfl rfl i_add) ?_
   refine rd_op (ov_move rfl) ?_
   refine rd_nil ?_
   refine pn_again ?_
   have hinc : wr (x4_ + 1) = x4_ + 1 := wr_of (by omega) (by omega)
   rw [hinc]
   refine rc_weak ?_ (ih (2#64 * x3_) (x4_ + 1)  (by omega) (by omega) hres)
   exact ((sub_cons rfl (sub_cons rfl (sub_cons rfl (sub_nil _)))))
  ·exfalso
   try simp only [qa1, qa2, qa3, qa4, qa5, qa6, qa7, qa8, qa9, qaA, qaB, qaC, qaD] at hc102
   omega

theorem f61_ok {x0 : Int} (hn : x0 ≤ 64) : FnR Try.prog 61 [vi x0] (vu64 (ref01_power x0)) := by
 obtain ⟨res, hres⟩ : ∃ res, ref01_power x0 = res := ⟨_, rfl⟩
 suffices H : RC Try.prog ac61 [] (QR Try.prog [(2, none)] (RF61 res)) (argE 0 [vi x0]) ⟨0, []⟩ by
  obtain ⟨r, h1, h2⟩ := fnE text61 (by simp) H
  rw [hres]
  have h2 : r = vu64 res := h2
  rw [← h2]; exact h1
 unfold ref01_power at hres
 unfold ac61
 refine rc_seq ?_
 refine rc_region ?_
 refine rd_op (v := vu64 0#64) (ov_move rfl) ?_
 refine rd_nil ?_
 refine pn_seq ?_
 refine rc_seq ?_
 refine rc_region ?_
 refine rd_op (v := vu64 1#64) (ov_move rfl) ?_
 refine rd_nil ?_
 refine pn_seq ?_
 refine rc_seq ?_
 refine rc_seq ?_
 refine rc_region ?_
 refine rd_op (v := vi 0) (ov_move rfl) ?_
 refine rd_nil ?_
 refine pn_seq ?_
 refine rc_block ?_
 refine rc_weak ?_ (ref01_power_L1_ok (x0 := x0)   (hn := hn) ?_ (Int.toNat (x0 - 0)) 1#64 0 rfl (by omega) hres)
 ·exact ((sub_cons rfl (sub_cons rfl (sub_cons rfl (sub_nil _)))))
 ·intro x3_103 hres
  refine px_blk ?_
  refine pn_seq ?_
  refine rc_seq ?_
  refine rc_region ?_
  refine rd_op (ov_move rfl) ?_
  refine rd_op (ov_move rfl) ?_
  refine rd_nil ?_
  refine pn_seq ?_
  subst hres
  exact rc_retV (.tmp rfl .nil) (deep_closed rfl) rfl

/-- patchbay/patchbayref01.Mask -/
def RF31 (res : (BitVec 32)) (r : PV) : Prop := r = vu32 res
theorem f31_ok {x0 : Int} : FnR Try.prog 31 [vi x0] (vu32 (ref01_Mask x0)) := by
 obtain ⟨res, hres⟩ : ∃ res, ref01_Mask x0 = res := ⟨_, rfl⟩
 suffices H : RC Try.prog ac31 [] (QR Try.prog [(2, none)] (RF31 res)) (argE 0 [vi x0]) ⟨0, []⟩ by
  obtain ⟨r, h1, h2⟩ := fnE text31 (by simp) H
  rw [hres]
  have h2 : r = vu32 res := h2
  rw [← h2]; exact h1
 unfold ref01_Mask at hres
 unfold ac31
 refine rc_seq ?_
 refine rc_region ?_
 refine rd_op (v := vu32 0#32) (ov_move rfl) ?_
 refine rd_nil ?_
 refine pn_seq ?_
 refine rc_seq ?_
 refine rc_seq ?_
 refine rc_region ?_
 refine rd_op (ov_move rfl) ?_
 obtain ⟨y101, hw101, hres⟩ := let_ex hres
 have f101 := f60_ok (x0 := x0)  
 rw [hw101] at f101
 refine rd_call (cv_fn rfl rfl (clL_cons rfl clL_nil) f101) ?_
 refine rd_op (ov_not rfl) ?_
 refine rd_nil ?_
 refine pn_seq ?_
 refine rc_cond rfl (fun hc102 => ?_) (fun hc102 => ?_)
 ·replace hres := (ite_t hc102).symm.trans hres
  have hc102' := hc102
  try simp only [qa1, qa2, qa3, qa4, qa5, qa6, qa7, qa8, qa9, qaA, qaB, qaC, qaD] at hc102'
  refine rc_seq ?_
  refine rc_region ?_
  refine rd_op (v := vu32 0#32) (ov_move rfl) ?_
  refine rd_nil ?_
  refine pn_seq ?_
  subst hres
  exact rc_retV (.tmp rfl .nil) (deep_closed rfl) rfl
 ·replace hres := (ite_f hc102).symm.trans hres
  have hc102' := hc102
  try simp only [qa1, qa2, qa3, qa4, qa5, qa6, qa7, qa8, qa9, qaA, qaB, qaC, qaD] at hc102'
  refine rc_skip ?_
  refine pn_seq ?_
  refine rc_seq ?_
  refine rc_region ?_
  refine rd_op (ov_move rfl) ?_
  obtain ⟨y103, hw103, hres⟩ := let_ex hres
  have f103 := f61_ok (x0 := x0)  (by first | assumption | omega | (have := rv (by assumption) (by assumption); omega))
  rw [hw103] at f103
  refine rd_call (cv_fn rfl rfl (clL_cons rfl clL_nil) f103) ?_
  refine rd_op (ov_bin (a := vu64 y103) (b := vu64 1#64) rfl rfl d_sub) ?_
  refine rd_op (ov_conv (a := vu64 (y103 - 1#64)) rfl (c_dw Try.underlying106 Try.underlying57)) ?_
  refine rd_op (ov_move rfl) ?_
  refine rd_nil ?_
  refine pn_seq ?_
  subst hres
  exact rc_retV (.tmp rfl .nil) (deep_closed rfl) rfl

/-- patchbay/patchbaylaw17.TableKeyOf -/
def RF7 (res : Bool) (r : PV) : Prop := r = vb res
theorem law17_TableKeyOf_L1_ok {S : List Fr} {res : Bool} {x0 : api_Program} {x1 : api_Env} {x2 : List (BitVec 32)} {y103 : Bool} {y112 : (List (BitVec 32))} {y129 : (List (BitVec 32))} {v0 : PV} {v2 : PV} {v113 : PV} {nw121 : List PV} {a121 : PV} {v128 : PV} {v130 : PV} {m125 : Nat} (r0 : api_Program.t.R x0 v0) (r2 : (tAr 3 tU32).R x2 v2) (hw103 : law17_Small x0 = y103) (hc110 : ((((!y103) || (!(law17_SmallEnv x1))) || (decide ((x1.Metd.length : Int) ≤ (((ix x2 1) % 16#32).toNat : Int)))) || (decide ((x0.Metadata.length : Int) ≤ (((ix x2 1) % 16#32).toNat : Int)))) = false) (hw112 : table_Key x0 (((ix x2 0) % 16#32).toNat : Int) x1 = y112) (r113 : (tSl tU32).R y112 v113) (ar121 : All2 tU32.R x1.Metd nw121) (wr121 : Wri a121 (([] : List PV) ++ nw121)) (hl121 : x1.Metd.length ≤ 4611686018427387904) (n121 : isL a121 = true) (hn125 : x1.Metd.length = m125) (h0_126 : 0 ≤ (((ix x2 1) % 16#32).toNat : Int)) (h1_126 : (((ix x2 1) % 16#32).toNat : Int) < (x1.Metd.length : Int)) (hl127 : (x1.Metd.set ((((ix x2 1) % 16#32).toNat : Int)).toNat (ix x2 2)).length ≤ 4611686018427387904) (hn127 : (x1.Metd.set ((((ix x2 1) % 16#32).toNat : Int)).toNat (ix x2 2)).length = m125) (b128 : IsSl v128 ((([] : List PV) ++ nw121).set ((((ix x2 1) % 16#32).toNat : Int)).toNat (vu32 (ix x2 2)))) (hw129 : table_Key x0 (((ix x2 0) % 16#32).toNat : Int) ({ Valid := x1.Valid, Fields := x1.Fields, Metd := (x1.Metd.set ((((ix x2 1) % 16#32).toNat : Int)).toNat (ix x2 2)), Payload := x1.Payload } : api_Env) = y129) (r130 : (tSl tU32).R y129 v130) (hc136 : ((!decide ((y112.length : Int) = (y129.length : Int))) || ((decide (0 < (y129.length : Int))) && (!decide ((y129.length : Int) = (((ix x0.Tables (((ix x2 0) % 16#32).toNat : Int)).Keys).length : Int))))) = false) {K0 : Unit → Bool}
  (hK0 : ∀ (h : Heap) (M0 : Mem h []), K0 () = res → PX Try.prog 0 S (QR Try.prog [(6, none)] (RF7 res)) [] h) :
  ∀ (m : Nat) (x12_ : Int) (hm1 : m = Int.toNat ((y129.length : Int) - x12_)) (hlo1 : 0 ≤ x12_) (h : Heap) (M0 : Mem h []), law17_TableKeyOf_L1 x0 x2 y112 y129 K0 m x12_ = res → RC Try.prog (.loop ac7_L1) S (QR Try.prog [(6, none)] (RF7 res)) [(12, vi x12_), (11, v130), (9, v113), (8, vi (((ix x2 1) % 16#32).toNat : Int)), (7, vi (((ix x2 0) % 16#32).toNat : Int)), (5, .fp v2), (3, .fp v0)] h := by
 have hc110' := hc110
 try simp only [qa1, qa2, qa3, qa4, qa5, qa6, qa7, qa8, qa9, qaA, qaB, qaC, qaD] at hc110'
 have hc136' := hc136
 try simp only [qa1, qa2, qa3, qa4, qa5, qa6, qa7, qa8, qa9, qaA, qaB, qaC, qaD] at hc136'
 intro m
 induction m with
 | zero =>
  intro x12_ hm1 hlo1 h M0 hres
  rw [law17_TableKeyOf_L1] at hres
  refine rc_loop ?_
  unfold ac7_L1
  refine rc_seq ?_
  refine rc_seq ?_
  refine rc_region ?_
  refine rd_op (ov_move rfl) ?_
  refine rd_op (ov_move rfl) ?_
  refine rd_op (ov_bi rfl (sl_len r130 Try.underlying44 _)) ?_
  refine rd_op (ov_bin rfl rfl i_lss) ?_
  refine rd_nil ?_
  refine pn_seq ?_
  refine rc_cond rfl (fun hc137 => ?_) (fun hc137 => ?_)
  ·exfalso
   try simp only [qa1, qa2, qa3, qa4, qa5, qa6, qa7, qa8, qa9, qaA, qaB, qaC, qaD] at hc137
   omega
  ·have hend := hres
   have hc137' := hc137
   try simp only [qa1, qa2, qa3, qa4, qa5, qa6, qa7, qa8, qa9, qaA, qaB, qaC, qaD] at hc137'
   refine rc_exit ?_
   refine px_seq ?_
   refine px_again ?_
   exact px_weak ((sub_nil _)) (hK0 _ (Mem.sub M0 .slnil) hres)
 | succ m ih =>
  intro x12_ hm1 hlo1 h M0 hres
  rw [law17_TableKeyOf_L1] at hres
  refine rc_loop ?_
  unfold ac7_L1
  refine rc_seq ?_
  refine rc_seq ?_
  refine rc_region ?_
  refine rd_op (ov_move rfl) ?_
  refine rd_op (ov_move rfl) ?_
  refine rd_op (ov_bi rfl (sl_len r130 Try.underlying44 _)) ?_
  refine rd_op (ov_bin rfl rfl i_lss) ?_
  refine rd_nil ?_
  refine pn_seq ?_
  refine rc_cond rfl (fun hc138 => ?_) (fun hc138 => ?_)
  ·have hgo := hres
   have hc138' := hc138
   try simp only [qa1, qa2, qa3, qa4, qa5, qa6, qa7, qa8, qa9, qaA, qaB, qaC, qaD] at hc138'
   refine rc_skip ?_
   refine pn_seq ?_
   refine rc_seq ?_
   refine rc_block ?_
   refine rc_seq ?_
   refine rc_region ?_
   refine rd_op (ov_move rfl) ?_
   refine rd_op (ov_move rfl) ?_
   refine rd_op (ov_iaddr rfl rfl (slU32 r113 (by first | omega | (have hk := ky (i := 0) (by assumption) (by omega) (by omega); omega) | (have hk := ky (by assumption) hlo1 (by omega); omega)) (by first | omega | (have hk := ky (i := 0) (by assumption) (by omega) (by omega); omega) | (have hk := ky (by assumption) hlo1 (by omega); omega)))) ?_
   refine rd_op (ov_load rfl rfl rfl) ?_
   refine rd_op (ov_move rfl) ?_
   refine rd_nil ?_
   refine pn_seq ?_
   refine rc_seq ?_
   refine rc_seq ?_
   refine rc_region ?_
   obtain ⟨v139, e139, r139⟩ := api_Program.g_Tables r0
   refine rd_op (ov_faddr rfl e139) ?_
   refine rd_op (ov_load rfl (TR.cnt (tSl api_Table.t) r139) (TR.agg (tSl api_Table.t) r139)) ?_
   refine rd_op (ov_move rfl) ?_
   obtain ⟨v140, e140, r140⟩ := sl_idx (i := (((ix x2 0) % 16#32).toNat : Int)) r139 (by first | omega | (have hk := ky (i := 0) (by assumption) (by omega) (by omega); omega) | (have hk := ky (by assumption) hlo1 (by omega); omega)) (by first | omega | (have hk := ky (i := 0) (by assumption) (by omega) (by omega); omega) | (have hk := ky (by assumption) hlo1 (by omega); omega))
   refine rd_op (ov_iaddr rfl rfl e140) ?_
   obtain ⟨v141, e141, r141⟩ := api_Table.g_Keys r140
   refine rd_op (ov_faddr rfl e141) ?_
   refine rd_op (ov_load rfl (TR.cnt (tSl api_TableKey.t) r141) (TR.agg (tSl api_TableKey.t) r141)) ?_
   refine rd_op (ov_move rfl) ?_
   obtain ⟨v142, e142, r142⟩ := sl_idx (i := x12_) r141 (by first | omega | (have hk := ky (i := 0) (by assumption) (by omega) (by omega); omega) | (have hk := ky (by assumption) hlo1 (by omega); omega)) (by first | omega | (have hk := ky (i := 0) (by assumption) (by omega) (by omega); omega) | (have hk := ky (by assumption) hlo1 (by omega); omega))
   refine rd_op (ov_iaddr rfl rfl e142) ?_
   obtain ⟨v143, e143, r143⟩ := api_TableKey.g_Field r142
   refine rd_op (ov_faddr rfl e143) ?_
   refine rd_op (ov_load rfl (TR.cnt api_FieldRef.t r143) (TR.agg api_FieldRef.t r143)) ?_
   refine rd_op (ov_move rfl) ?_
   refine rd_op (v := .agg [vi (-1), vi (((ix x2 1) % 16#32).toNat : Int)]) (ov_build (cs := [vi (-1), vi (((ix x2 1) % 16#32).toNat : Int)]) rfl rfl) ?_
   refine rd_op (ov_bin rfl rfl (api_FieldRef.eql_60 r143 (show api_FieldRef.t.R ({ Header := (-1), Field := (((ix x2 1) % 16#32).toNat : Int) } : api_FieldRef) (.agg [vi (-1), vi (((ix x2 1) % 16#32).toNat : Int)]) from rfl))) ?_
   refine rd_nil ?_
   refine pn_seq ?_
   obtain ⟨k149, hk149, hres⟩ := let_ex hres
   refine rc_join (F := fun b S Q => ∀ (x13_149 : BitVec 32) (hj149 : Heap) (Mj149 : Mem hj149 []), k149 x13_149 = res → RC Try.prog b S Q [(13, vu32 x13_149), (12, vi x12_), (11, v130), (9, v113), (8, vi (((ix x2 1) % 16#32).toNat : Int)), (7, vi (((ix x2 0) % 16#32).toNat : Int)), (5, .fp v2), (3, .fp v0)] hj149) ?_ ?_
   ·intro x13_149 hj149 Mj149 hres
    rw [← hk149] at hres
    refine rc_seq ?_
    refine rc_region ?_
    refine rd_op (ov_move rfl) ?_
    refine rd_op (ov_move rfl) ?_
    refine rd_op (ov_iaddr rfl rfl (slU32 r130 (by first | omega | (have hk := ky (i := 0) (by assumption) (by omega) (by omega); omega) | (have hk := ky (by assumption) hlo1 (by omega); omega)) (by first | omega | (have hk := ky (i := 0) (by assumption) (by omega) (by omega); omega) | (have hk := ky (by assumption) hlo1 (by omega); omega)))) ?_
    refine rd_op (ov_load rfl rfl rfl) ?_
    refine rd_op (ov_move rfl) ?_
    refine rd_op (ov_bin (a := vu32 (ix y129 x12_)) (b := vu32 x13_149) rfl rfl w_neq) ?_
    refine rd_nil ?_
    refine pn_seq ?_
    refine rc_cond rfl (fun hc150 => ?_) (fun hc150 => ?_)
    ·replace hres := (ite_t hc150).symm.trans hres
     have hc150' := hc150
     try simp only [qa1, qa2, qa3, qa4, qa5, qa6, qa7, qa8, qa9, qaA, qaB, qaC, qaD] at hc150'
     refine rc_seq ?_
     refine rc_region ?_
     refine rd_op (v := vb false) (ov_move rfl) ?_
     refine rd_nil ?_
     refine pn_seq ?_
     subst hres
     exact rc_retV (.tmp rfl .nil) (deep_closed rfl) rfl
    ·replace hres := (ite_f hc150).symm.trans hres
     have hc150' := hc150
     try simp only [qa1, qa2, qa3, qa4, qa5, qa6, qa7, qa8, qa9, qaA, qaB, qaC, qaD] at hc150'
     refine rc_skip ?_
     refine pn_blk ?_
     refine pn_seq ?_
     refine rc_region ?_
     refine rd_op (ov_move rfl) ?_
     refine rd_op (ov_bin rfl rfl i_add) ?_
     refine rd_op (ov_move rfl) ?_
     refine rd_nil ?_
     refine pn_again ?_
     have hbd := sl_bound r130
     have hinc : wr (x12_ + 1) = x12_ + 1 := wr_of (by omega) (by omega)
     rw [hinc]
     refine rc_weak ?_ (ih (x12_ + 1)  (by omega) (by omega) _ (Mem.sub Mj149 .slnil) hres)
     exact ((sub_cons rfl (sub_cons rfl (sub_cons rfl (sub_cons rfl (sub_cons rfl (sub_cons rfl (sub_cons rfl (sub_nil _)))))))))
   ·intro J
    refine rc_cond rfl (fun hc151 => ?_) (fun hc151 => ?_)
    ·replace hres := (ite_t hc151).symm.trans hres
     have hc151' := hc151
     try simp only [qa1, qa2, qa3, qa4, qa5, qa6, qa7, qa8, qa9, qaA, qaB, qaC, qaD] at hc151'
     refine rc_region ?_
     obtain ⟨v152, e152, r152⟩ := arr_addr (t := tU32) r2 (i := 2) (by omega) (by omega)
     have r152 : v152 = vu32 (ix x2 2) := r152; subst r152
     refine rd_op (ov_iaddrA rfl rfl e152) ?_
     refine rd_op (ov_load rfl rfl rfl) ?_
     obtain ⟨v153, e153, r153⟩ := api_Program.g_Metadata r0
     refine rd_op (ov_faddr rfl e153) ?_
     refine rd_op (ov_load rfl (TR.cnt (tSl api_Field.t) r153) (TR.agg (tSl api_Field.t) r153)) ?_
     refine rd_op (ov_move rfl) ?_
     obtain ⟨v154, e154, r154⟩ := sl_idx (i := (((ix x2 1) % 16#32).toNat : Int)) r153 (by first | omega | (have hk := ky (i := 0) (by assumption) (by omega) (by omega); omega) | (have hk := ky (by assumption) hlo1 (by omega); omega)) (by first | omega | (have hk := ky (i := 0) (by assumption) (by omega) (by omega); omega) | (have hk := ky (by assumption) hlo1 (by omega); omega))
     refine rd_op (ov_iaddr rfl rfl e154) ?_
     refine rd_op (ov_faddr rfl (api_Field.g_Width r154)) ?_
     refine rd_op (ov_load rfl rfl rfl) ?_
     obtain ⟨y155, hw155, hres⟩ := let_ex hres
     have f155 := f31_ok (x0 := (ix x0.Metadata (((ix x2 1) % 16#32).toNat : Int)).Width)  
     rw [hw155] at f155
     refine rd_call (cv_fn rfl rfl (clL_cons rfl clL_nil) f155) ?_
     refine rd_op (ov_bin (a := vu32 (ix x2 2)) (b := vu32 y155) rfl rfl w_and) ?_
     refine rd_op (ov_move rfl) ?_
     refine rd_nil ?_
     refine pn_seq (rc_weak ((sub_cons rfl (sub_cons rfl (sub_cons rfl (sub_cons rfl (sub_cons rfl (sub_cons rfl (sub_cons rfl (sub_cons rfl (sub_nil _)))))))))) (J _ _ (Mem.sub M0 .slnil) hres))
    ·replace hres := (ite_f hc151).symm.trans hres
     have hc151' := hc151
     try simp only [qa1, qa2, qa3, qa4, qa5, qa6, qa7, qa8, qa9, qaA, qaB, qaC, qaD] at hc151'
     refine rc_skip ?_
     refine pn_seq (rc_weak ((sub_cons rfl (sub_cons rfl (sub_cons rfl (sub_cons rfl (sub_cons rfl (sub_cons rfl (sub_cons rfl (sub_cons rfl (sub_nil _)))))))))) (J _ _ (Mem.sub M0 .slnil) hres))
  ·exfalso
   try simp only [qa1, qa2, qa3, qa4, qa5, qa6, qa7, qa8, qa9, qaA, qaB, qaC, qaD] at hc138
   omega

theorem f7_ok {x0 : api_Program} {x1 : api_Env} {x2 : List (BitVec 32)} {v0 : PV} {v1 : PV} {v2 : PV} (r0 : api_Program.t.R x0 v0) (r1 : api_Env.t.R x1 v1) (r2 : (tAr 3 tU32).R x2 v2) : FnR Try.prog 7 [v0, v1, v2] (vb (law17_TableKeyOf x0 x1 x2)) := by
 obtain ⟨res, hres⟩ : ∃ res, law17_TableKeyOf x0 x1 x2 = res := ⟨_, rfl⟩
 suffices H : RC Try.prog ac7 [] (QR Try.prog [(6, none)] (RF7 res)) (argE 0 [v0, v1, v2]) ⟨0, []⟩ by
  obtain ⟨r, h1, h2⟩ := fnE text7 (by simp) H
  rw [hres]
  have h2 : r = vb res := h2
  rw [← h2]; exact h1
 unfold law17_TableKeyOf at hres
 unfold ac7
 refine rc_seq ?_
 refine rc_region ?_
 refine rd_op (ov_box rfl (TR.cnt api_Program.t r0)) ?_
 refine rd_op (ov_box rfl (TR.cnt api_Env.t r1)) ?_
 refine rd_op (ov_box rfl (TR.cnt (tAr 3 tU32) r2)) ?_
 refine rd_op (v := vb false) (ov_move rfl) ?_
 refine rd_nil ?_
 refine pn_seq ?_
 refine rc_seq ?_
 refine rc_region ?_
 obtain ⟨v101, e101, r101⟩ := arr_addr (t := tU32) r2 (i := 0) (by omega) (by omega)
 have r101 : v101 = vu32 (ix x2 0) := r101; subst r101
 refine rd_op (ov_iaddrA rfl rfl e101) ?_
 refine rd_op (ov_load rfl rfl rfl) ?_
 refine rd_op (ov_bin (a := vu32 (ix x2 0)) (b := vu32 16#32) rfl rfl (w_rem (by decide))) ?_
 refine rd_op (ov_conv (a := vu32 ((ix x2 0) % 16#32)) rfl (c_wi Try.underlying57 Try.underlying3)) ?_
 obtain ⟨v102, e102, r102⟩ := arr_addr (t := tU32) r2 (i := 1) (by omega) (by omega)
 have r102 : v102 = vu32 (ix x2 1) := r102; subst r102
 refine rd_op (ov_iaddrA rfl rfl e102) ?_
 refine rd_op (ov_load rfl rfl rfl) ?_
 refine rd_op (ov_bin (a := vu32 (ix x2 1)) (b := vu32 16#32) rfl rfl (w_rem (by decide))) ?_
 refine rd_op (ov_conv (a := vu32 ((ix x2 1) % 16#32)) rfl (c_wi Try.underlying57 Try.underlying3)) ?_
 refine rd_op (ov_move rfl) ?_
 refine rd_op (ov_move rfl) ?_
 refine rd_nil ?_
 refine pn_seq ?_
 refine rc_seq ?_
 refine rc_seq ?_
 refine rc_region ?_
 refine rd_op (ov_load rfl (TR.cnt api_Program.t r0) (TR.agg api_Program.t r0)) ?_
 obtain ⟨y103, hw103, hres⟩ := let_ex hres
 have f103 := f14_ok  r0 
 rw [hw103] at f103
 refine rd_call (cv_fn rfl rfl (clL_cons (TR.clo api_Program.t r0) clL_nil) f103) ?_
 refine rd_op (ov_not rfl) ?_
 refine rd_op (ov_move rfl) ?_
 refine rd_cut (d := 29) (v := vb ((!y103) || (!(law17_SmallEnv x1)))) ?_ ?_
 ·intro S Q r
  simp only [ac7_G1, List.cons_append, List.nil_append, List.append_assoc]
  cases hb104 : (!y103)
  ·intro k
   have hb104' := hb104
   try simp only [qa1, qa2, qa3, qa4, qa5, qa6, qa7, qa8, qa9, qaA, qaB, qaC, qaD] at hb104'
   refine rd_yes rfl rfl (ov_load rfl (TR.cnt api_Env.t r1) (TR.agg api_Env.t r1)) ?_
   have f105 := f27_ok  r1 
   refine rd_ycall rfl rfl (cv_fn rfl rfl (clL_cons (TR.clo api_Env.t r1) clL_nil) f105) ?_
   refine rd_yes rfl rfl (ov_not rfl) ?_
   refine rd_op (v := vb (!(law17_SmallEnv x1))) (ov_pick rfl rfl rfl rfl) ?_
   exact rd_weak (sub_cons rfl (sub_skip rfl (sub_skip rfl (sub_skip rfl (sub_skip rfl (sub_refl _)))))) k
  ·intro k
   refine rd_skip rfl rfl ?_
   refine rd_skip rfl rfl ?_
   refine rd_skip rfl rfl ?_
   refine rd_op (v := vb true) (ov_pick rfl rfl rfl rfl) ?_
   exact rd_weak (sub_cons rfl (sub_skip rfl (sub_skip rfl (sub_skip rfl (sub_skip rfl (sub_refl _)))))) k
 refine rd_op (ov_move rfl) ?_
 refine rd_cut (d := 36) (v := vb (((!y103) || (!(law17_SmallEnv x1))) || (decide ((x1.Metd.length : Int) ≤ (((ix x2 1) % 16#32).toNat : Int))))) ?_ ?_
 ·intro S Q r
  simp only [ac7_G2, List.cons_append, List.nil_append, List.append_assoc]
  cases hb106 : ((!y103) || (!(law17_SmallEnv x1)))
  ·intro k
   have hb106' := hb106
   try simp only [qa1, qa2, qa3, qa4, qa5, qa6, qa7, qa8, qa9, qaA, qaB, qaC, qaD] at hb106'
   refine rd_yes rfl rfl (ov_move rfl) ?_
   obtain ⟨v107, e107, r107⟩ := api_Env.g_Meta r1
   refine rd_yes rfl rfl (ov_faddr rfl e107) ?_
   refine rd_yes rfl rfl (ov_load rfl (TR.cnt (tSl tU32) r107) (TR.agg (tSl tU32) r107)) ?_
   refine rd_yes rfl rfl (ov_bi rfl (sl_len r107 Try.underlying44 _)) ?_
   refine rd_yes rfl rfl (ov_bin rfl rfl i_geq) ?_
   refine rd_op (v := vb (decide ((x1.Metd.length : Int) ≤ (((ix x2 1) % 16#32).toNat : Int)))) (ov_pick rfl rfl rfl rfl) ?_
   exact rd_weak (sub_cons rfl (sub_skip rfl (sub_skip rfl (sub_skip rfl (sub_skip rfl (sub_skip rfl (sub_skip rfl (sub_refl _)))))))) k
  ·intro k
   refine rd_skip rfl rfl ?_
   refine rd_skip rfl rfl ?_
   refine rd_skip rfl rfl ?_
   refine rd_skip rfl rfl ?_
   refine rd_skip rfl rfl ?_
   refine rd_op (v := vb true) (ov_pick rfl rfl rfl rfl) ?_
   exact rd_weak (sub_cons rfl (sub_skip rfl (sub_skip rfl (sub_skip rfl (sub_skip rfl (sub_skip rfl (sub_skip rfl (sub_refl _)))))))) k
 refine rd_op (ov_move rfl) ?_
 refine rd_cut (d := 43) (v := vb ((((!y103) || (!(law17_SmallEnv x1))) || (decide ((x1.Metd.length : Int) ≤ (((ix x2 1) % 16#32).toNat : Int)))) || (decide ((x0.Metadata.length : Int) ≤ (((ix x2 1) % 16#32).toNat : Int))))) ?_ ?_
 ·intro S Q r
  simp only [ac7_G3, List.cons_append, List.nil_append, List.append_assoc]
  cases hb108 : (((!y103) || (!(law17_SmallEnv x1))) || (decide ((x1.Metd.length : Int) ≤ (((ix x2 1) % 16#32).toNat : Int))))
  ·intro k
   have hb108' := hb108
   try simp only [qa1, qa2, qa3, qa4, qa5, qa6, qa7, qa8, qa9, qaA, qaB, qaC, qaD] at hb108'
   refine rd_yes rfl rfl (ov_move rfl) ?_
   obtain ⟨v109, e109, r109⟩ := api_Program.g_Metadata r0
   refine rd_yes rfl rfl (ov_faddr rfl e109) ?_
   refine rd_yes rfl rfl (ov_load rfl (TR.cnt (tSl api_Field.t) r109) (TR.agg (tSl api_Field.t) r109)) ?_
   refine rd_yes rfl rfl (ov_bi rfl (sl_len r109 Try.underlying23 _)) ?_
   refine rd_yes rfl rfl (ov_bin rfl rfl i_geq) ?_
   refine rd_op (v := vb (decide ((x0.Metadata.length : Int) ≤ (((ix x2 1) % 16#32).toNat : Int)))) (ov_pick rfl rfl rfl rfl) ?_
   exact rd_weak (sub_cons rfl (sub_skip rfl (sub_skip rfl (sub_skip rfl (sub_skip rfl (sub_skip rfl (sub_skip rfl (sub_refl _)))))))) k
  ·intro k
   refine rd_skip rfl rfl ?_
   refine rd_skip rfl rfl ?_
   refine rd_skip rfl rfl ?_
   refine rd_skip rfl rfl ?_
   refine rd_skip rfl rfl ?_
   refine rd_op (v := vb true) (ov_pick rfl rfl rfl rfl) ?_
   exact rd_weak (sub_cons rfl (sub_skip rfl (sub_skip rfl (sub_skip rfl (sub_skip rfl (sub_skip rfl (sub_skip rfl (sub_refl _)))))))) k
 refine rd_nil ?_
 refine pn_seq ?_
 refine rc_cond rfl (fun hc110 => ?_) (fun hc110 => ?_)
 ·replace hres := (ite_t hc110).symm.trans hres
  have hc110' := hc110
  try simp only [qa1, qa2, qa3, qa4, qa5, qa6, qa7, qa8, qa9, qaA, qaB, qaC, qaD] at hc110'
  refine rc_seq ?_
  refine rc_region ?_
  obtain ⟨y111, hw111, hres⟩ := let_ex hres
  have f111 := f15_ok   
  rw [hw111] at f111
  refine rd_call (cv_fn rfl rfl clL_nil f111) ?_
  refine rd_op (ov_move rfl) ?_
  refine rd_nil ?_
  refine pn_seq ?_
  subst hres
  exact rc_retV (.tmp rfl .nil) (deep_closed rfl) rfl
 ·replace hres := (ite_f hc110).symm.trans hres
  have hc110' := hc110
  try simp only [qa1, qa2, qa3, qa4, qa5, qa6, qa7, qa8, qa9, qaA, qaB, qaC, qaD] at hc110'
  refine rc_skip ?_
  refine pn_seq ?_
  refine rc_seq ?_
  refine rc_region ?_
  refine rd_op (ov_load rfl (TR.cnt api_Program.t r0) (TR.agg api_Program.t r0)) ?_
  refine rd_op (ov_move rfl) ?_
  refine rd_op (ov_load rfl (TR.cnt api_Env.t r1) (TR.agg api_Env.t r1)) ?_
  obtain ⟨y112, hw112, hres⟩ := let_ex hres
  obtain ⟨v113, f112, r113⟩ := f29_ok (x1 := (((ix x2 0) % 16#32).toNat : Int)) r0 r1 
  rw [hw112] at r113
  refine rd_call (cv_fn rfl rfl (clL_cons (TR.clo api_Program.t r0) (clL_cons rfl (clL_cons (TR.clo api_Env.t r1) clL_nil))) f112) ?_
  refine rd_op (ov_move rfl) ?_
  refine rd_nil ?_
  refine pn_seq ?_
  refine rc_seq ?_
  refine rc_region ?_
  refine rd_op (ov_load rfl (TR.cnt api_Env.t r1) (TR.agg api_Env.t r1)) ?_
  refine rd_allocO (x := .agg [nilS, nilS, nilS, nilS]) (Mem.nil ⟨0, []⟩) rfl rfl (fun i114 w114 h114 M114 => ?_)
  refine rd_storeO (k := 0) (v := v1) M114 rfl rfl rfl (TR.cnt api_Env.t r1) (fun h116 M116 => ?_)
  replace M116 : Mem h116 [⟨.op i114 w114 0, 47, 4, [v1]⟩] := M116
  refine rd_nil ?_
  refine pn_seq ?_
  refine rc_seq ?_
  refine rc_region ?_
  refine rd_op (v := .fs true []) (ov_bslice rfl all_nil) ?_
  have r117 : (tSl tU32).R ([] : List (BitVec 32)) (.fs true []) := sl_fs trivial (by simp)
  obtain ⟨v118, e118, r118⟩ := api_Env.g_Meta r1
  refine rd_op (ov_faddr rfl e118) ?_
  refine rd_op (ov_load rfl (TR.cnt (tSl tU32) r118) (TR.agg (tSl tU32) r118)) ?_
  have a119 := r117
  have q119 : All2 tU32.R ([] : List (BitVec 32)) ([] : List PV) := sl_all2 a119
  have M119 := mem_acc (sz := 1) (es := ([] : List PV)) M116 57 (.inr rfl) (All2.cnt (t := tU32) q119)
  obtain ⟨nw121, sr121, ar121⟩ := src_of (t := tU32) (h := h116) r118
  have f121 : fits (([] : List PV).length + nw121.length) 4 = true := by rw [All2.length_eq q119, All2.length_eq ar121]; (try simp only [List.length_cons, List.length_nil]); exact fits_of (by have hk := sme (And.right (And.left (And.left (by assumption)))); omega) (by have hk := sme (And.right (And.left (And.left (by assumption)))); omega)
  refine rd_appW (k := 0) (es := ([] : List PV)) (news := nw121) M119 rfl rfl rfl rfl (.inl rfl) sr121 f121 (fun a121 h121 n121 wr121 M121 => ?_)
  have q121 : All2 tU32.R x1.Metd (([] : List PV) ++ nw121) := All2.app q119 ar121
  have hl121 : x1.Metd.length ≤ 4611686018427387904 := by rw [← All2.length_eq q121, List.length_append]; exact fits_len f121
  refine rd_op (ov_faddrO rfl) ?_
  obtain ⟨v123_c0, v123_c1, v123_c2, v123_c3, e123, r123_c0, r123_c1, r123_c2, r123_c3⟩ := r1
  subst e123
  refine rd_storeF (k := 1) (v := a121) M121 rfl rfl rfl (mem_one (k := 0) M121 rfl n121).1 rfl (by first | decide | (simp only [List.length_cons, List.length_nil]; omega) | simp) (fun h122 M122 => ?_)
  replace M122 : Mem h122 [⟨a121, 57, 1, (([] : List PV) ++ nw121)⟩, ⟨.op i114 w114 0, 47, 4, [.agg [v123_c0, v123_c1, a121, v123_c3]]⟩] := M122
  refine rd_nil ?_
  refine pn_seq ?_
  refine rc_seq ?_
  refine rc_region ?_
  refine rd_op (ov_faddrO rfl) ?_
  refine rd_op (ov_loadf (k := 1) M122 rfl rfl (mk1 (mem_one (k := 0) M122 rfl n121).2)) ?_
  refine rd_op (ov_move rfl) ?_
  obtain ⟨v124, e124, r124⟩ := arr_addr (t := tU32) r2 (i := 2) (by omega) (by omega)
  have r124 : v124 = vu32 (ix x2 2) := r124; subst r124
  refine rd_op (ov_iaddrA rfl rfl e124) ?_
  refine rd_op (ov_load rfl rfl rfl) ?_
  obtain ⟨i125, w125, m125, ha125⟩ := wri_os (i := (((ix x2 1) % 16#32).toNat : Int)) wr121 q121 (by first | omega | (have hk := ky (i := 0) (by assumption) (by omega) (by omega); omega) | (have hk := ky (by assumption) hlo1 (by omega); omega)) (by first | omega | (have hk := ky (i := 0) (by assumption) (by omega) (by omega); omega) | (have hk := ky (by assumption) hlo1 (by omega); omega))
  subst ha125
  have hn125 : x1.Metd.length = m125 := by rw [mem_osn M122 (k := 0) rfl, All2.length_eq q121]
  have h0_126 : 0 ≤ (((ix x2 1) % 16#32).toNat : Int) := (by first | omega | (have hk := ky (i := 0) (by assumption) (by omega) (by omega); omega) | (have hk := ky (by assumption) hlo1 (by omega); omega))
  have h1_126 : (((ix x2 1) % 16#32).toNat : Int) < (x1.Metd.length : Int) := (by first | omega | (have hk := ky (i := 0) (by assumption) (by omega) (by omega); omega) | (have hk := ky (by assumption) hlo1 (by omega); omega))
  refine rd_op (ov_iaddr rfl rfl (n_idx 1 h0_126 (by omega))) ?_
  refine rd_setO (k := 0) (v := vu32 (ix x2 2)) M122 rfl rfl rfl (by rw [All2.length_eq q121]; omega) rfl (fun h127 M127 => ?_)
  have q127 := All2.set (i := ((((ix x2 1) % 16#32).toNat : Int)).toNat) q121 (show tU32.R (ix x2 2) (vu32 (ix x2 2)) from rfl)
  have hl127 : (x1.Metd.set ((((ix x2 1) % 16#32).toNat : Int)).toNat (ix x2 2)).length ≤ 4611686018427387904 := by simp only [List.length_set]; exact hl121
  have hn127 : (x1.Metd.set ((((ix x2 1) % 16#32).toNat : Int)).toNat (ix x2 2)).length = m125 := by simp only [List.length_set]; exact hn125
  refine rd_nil ?_
  refine pn_seq ?_
  refine rc_seq ?_
  refine rc_regionS ?_
  refine rs_step ?_
  refine rd_op (ov_load rfl (TR.cnt api_Program.t r0) (TR.agg api_Program.t r0)) ?_
  refine rs_back ?_
  refine rs_step ?_
  refine rd_op (ov_move rfl) ?_
  refine rs_back ?_
  refine rs_step ?_
  refine rd_op (ov_load0 (k := 1) M127 rfl rfl rfl) ?_
  refine rs_back ?_
  refine rs_freeze (k := 0) (E' := fun v128 => [(63, .agg [v123_c0, v123_c1, v128, v123_c3]), (62, vi (((ix x2 0) % 16#32).toNat : Int)), (61, v0), (60, .op i125 w125 (0 + ((((ix x2 1) % 16#32).toNat : Int)).toNat * 1)), (59, vu32 (ix x2 2)), (58, .fp (vu32 (ix x2 2))), (57, vi (((ix x2 1) % 16#32).toNat : Int)), (56, v128), (55, .op i114 w114 (0 + 2)), (54, .op i114 w114 (0 + 2)), (53, v128), (52, v118), (51, .fp v118), (50, .fs true ([] : List PV)), (10, .op i114 w114 0), (49, .agg [v123_c0, v123_c1, v123_c2, v123_c3]), (9, v113), (48, v113), (47, .agg [v123_c0, v123_c1, v123_c2, v123_c3]), (46, vi (((ix x2 0) % 16#32).toNat : Int)), (45, v0), (43, vb ((((!y103) || (!(law17_SmallEnv x1))) || (decide ((x1.Metd.length : Int) ≤ (((ix x2 1) % 16#32).toNat : Int)))) || (decide ((x0.Metadata.length : Int) ≤ (((ix x2 1) % 16#32).toNat : Int))))), (37, vb (((!y103) || (!(law17_SmallEnv x1))) || (decide ((x1.Metd.length : Int) ≤ (((ix x2 1) % 16#32).toNat : Int))))), (36, vb (((!y103) || (!(law17_SmallEnv x1))) || (decide ((x1.Metd.length : Int) ≤ (((ix x2 1) % 16#32).toNat : Int))))), (30, vb ((!y103) || (!(law17_SmallEnv x1)))), (29, vb ((!y103) || (!(law17_SmallEnv x1)))), (25, vb (!y103)), (24, vb (!y103)), (23, vb y103), (22, v0), (8, vi (((ix x2 1) % 16#32).toNat : Int)), (7, vi (((ix x2 0) % 16#32).toNat : Int)), (21, vi (((ix x2 1) % 16#32).toNat : Int)), (20, vu32 ((ix x2 1) % 16#32)), (19, vu32 (ix x2 1)), (18, .fp (vu32 (ix x2 1))), (17, vi (((ix x2 0) % 16#32).toNat : Int)), (16, vu32 ((ix x2 0) % 16#32)), (15, vu32 (ix x2 0)), (14, .fp (vu32 (ix x2 0))), (6, vb false), (5, .fp v2), (4, .fp (.agg [v123_c0, v123_c1, v123_c2, v123_c3])), (3, .fp v0), (0, v0), (1, .agg [v123_c0, v123_c1, v123_c2, v123_c3]), (2, v2)]) M127 rfl rfl (fun v128 => (frz_cons rfl (.agg (.cons (.same _) (.cons (.same _) (.cons .turn (.cons (.same _) .nil))))) (frz_keep rfl (frz_keep rfl (frz_keep rfl (frz_keep rfl (frz_keep rfl (frz_keep rfl (frz_turn rfl (frz_keep rfl (frz_keep rfl (frz_turn rfl (frz_keep rfl (frz_keep rfl (frz_keep rfl (frz_keep rfl (frz_keep rfl (frz_keep rfl (frz_keep rfl (frz_keep rfl (frz_keep rfl (frz_keep rfl (frz_keep rfl (frz_keep rfl (frz_keep rfl (frz_keep rfl (frz_keep rfl (frz_keep rfl (frz_keep rfl (frz_keep rfl (frz_keep rfl (frz_keep rfl (frz_keep rfl (frz_keep rfl (frz_keep rfl (frz_keep rfl (frz_keep rfl (frz_keep rfl (frz_keep rfl (frz_keep rfl (frz_keep rfl (frz_keep rfl (frz_keep rfl (frz_keep rfl (frz_keep rfl (frz_keep rfl (frz_keep rfl (frz_keep rfl frz_nil)))))))))))))))))))))))))))))))))))))))))))))))) (fun v128 h128 b128 M128 => ?_)
  have r128 : (tSl tU32).R (x1.Metd.set ((((ix x2 1) % 16#32).toNat : Int)).toNat (ix x2 2)) v128 := ⟨⟨_, b128, q127⟩, Nat.le_trans hl127 (by decide)⟩
  replace M128 : Mem h128 [] := M128.sub (.cons _ .slnil)
  refine rs_step ?_
  obtain ⟨y129, hw129, hres⟩ := let_ex hres
  obtain ⟨v130, f129, r130⟩ := f29_ok (x1 := (((ix x2 0) % 16#32).toNat : Int)) r0 (show api_Env.t.R ({ Valid := x1.Valid, Fields := x1.Fields, Metd := (x1.Metd.set ((((ix x2 1) % 16#32).toNat : Int)).toNat (ix x2 2)), Payload := x1.Payload } : api_Env) (.agg [v123_c0, v123_c1, v128, v123_c3]) from ⟨v123_c0, v123_c1, v128, v123_c3, rfl, r123_c0, r123_c1, r128, r123_c3⟩) 
  rw [hw129] at r130
  refine rd_call (cv_fn rfl rfl (clL_cons (TR.clo api_Program.t r0) (clL_cons rfl (clL_cons (TR.clo api_Env.t (show api_Env.t.R ({ Valid := x1.Valid, Fields := x1.Fields, Metd := (x1.Metd.set ((((ix x2 1) % 16#32).toNat : Int)).toNat (ix x2 2)), Payload := x1.Payload } : api_Env) (.agg [v123_c0, v123_c1, v128, v123_c3]) from ⟨v123_c0, v123_c1, v128, v123_c3, rfl, r123_c0, r123_c1, r128, r123_c3⟩)) clL_nil))) f129) ?_
  refine rs_back ?_
  refine rs_step ?_
  refine rd_op (ov_move rfl) ?_
  refine rs_back ?_
  refine rs_nil ?_
  refine pn_seq ?_
  refine rc_seq ?_
  refine rc_seq ?_
  refine rc_region ?_
  refine rd_op (ov_move rfl) ?_
  refine rd_op (ov_bi rfl (sl_len r113 Try.underlying44 _)) ?_
  refine rd_op (ov_move rfl) ?_
  refine rd_op (ov_bi rfl (sl_len r130 Try.underlying44 _)) ?_
  refine rd_op (ov_bin rfl rfl i_neq) ?_
  refine rd_op (ov_move rfl) ?_
  refine rd_cut (d := 86) (v := vb ((!decide ((y112.length : Int) = (y129.length : Int))) || ((decide (0 < (y129.length : Int))) && (!decide ((y129.length : Int) = (((ix x0.Tables (((ix x2 0) % 16#32).toNat : Int)).Keys).length : Int)))))) ?_ ?_
  ·intro S Q r
   simp only [ac7_G4, List.cons_append, List.nil_append, List.append_assoc]
   cases hb131 : (!decide ((y112.length : Int) = (y129.length : Int)))
   ·intro k
    have hb131' := hb131
    try simp only [qa1, qa2, qa3, qa4, qa5, qa6, qa7, qa8, qa9, qaA, qaB, qaC, qaD] at hb131'
    refine rd_yes rfl rfl (ov_move rfl) ?_
    refine rd_yes rfl rfl (ov_bi rfl (sl_len r130 Try.underlying44 _)) ?_
    refine rd_yes rfl rfl (ov_bin rfl rfl i_gtr) ?_
    refine rd_yes rfl rfl (ov_move rfl) ?_
    refine rd_cut (d := 85) (v := vb ((decide (0 < (y129.length : Int))) && (!decide ((y129.length : Int) = (((ix x0.Tables (((ix x2 0) % 16#32).toNat : Int)).Keys).length : Int))))) ?_ ?_
    ·intro S Q r
     simp only [ac7_G5, List.cons_append, List.nil_append, List.append_assoc]
     cases hb132 : (decide (0 < (y129.length : Int)))
     ·intro k
      refine rd_skip rfl rfl ?_
      refine rd_skip rfl rfl ?_
      refine rd_skip rfl rfl ?_
      refine rd_skip rfl rfl ?_
      refine rd_skip rfl rfl ?_
      refine rd_skip rfl rfl ?_
      refine rd_skip rfl rfl ?_
      refine rd_skip rfl rfl ?_
      refine rd_skip rfl rfl ?_
      refine rd_skip rfl rfl ?_
      refine rd_yes (v := vb false) rfl rfl (ov_pick rfl rfl rfl rfl) ?_
      exact rd_weak (sub_cons rfl (sub_skip rfl (sub_skip rfl (sub_skip rfl (sub_skip rfl (sub_skip rfl (sub_skip rfl (sub_skip rfl (sub_skip rfl (sub_skip rfl (sub_skip rfl (sub_skip rfl (sub_refl _))))))))))))) k
     ·intro k
      have hb132' := hb132
      try simp only [qa1, qa2, qa3, qa4, qa5, qa6, qa7, qa8, qa9, qaA, qaB, qaC, qaD] at hb132'
      refine rd_yes rfl rfl (ov_move rfl) ?_
      refine rd_yes rfl rfl (ov_bi rfl (sl_len r130 Try.underlying44 _)) ?_
      obtain ⟨v133, e133, r133⟩ := api_Program.g_Tables r0
      refine rd_yes rfl rfl (ov_faddr rfl e133) ?_
      refine rd_yes rfl rfl (ov_load rfl (TR.cnt (tSl api_Table.t) r133) (TR.agg (tSl api_Table.t) r133)) ?_
      refine rd_yes rfl rfl (ov_move rfl) ?_
      obtain ⟨v134, e134, r134⟩ := sl_idx (i := (((ix x2 0) % 16#32).toNat : Int)) r133 (by first | omega | (have hk := ky (i := 0) (by assumption) (by omega) (by omega); omega) | (have hk := ky (by assumption) hlo1 (by omega); omega)) (by first | omega | (have hk := ky (i := 0) (by assumption) (by omega) (by omega); omega) | (have hk := ky (by assumption) hlo1 (by omega); omega))
      refine rd_yes rfl rfl (ov_iaddr rfl rfl e134) ?_
      obtain ⟨v135, e135, r135⟩ := api_Table.g_Keys r134
      refine rd_yes rfl rfl (ov_faddr rfl e135) ?_
      refine rd_yes rfl rfl (ov_load rfl (TR.cnt (tSl api_TableKey.t) r135) (TR.agg (tSl api_TableKey.t) r135)) ?_
      refine rd_yes rfl rfl (ov_bi rfl (sl_len r135 Try.underlying52 _)) ?_
      refine rd_yes rfl rfl (ov_bin rfl rfl i_neq) ?_
      refine rd_yes (v := vb (!decide ((y129.length : Int) = (((ix x0.Tables (((ix x2 0) % 16#32).toNat : Int)).Keys).length : Int)))) rfl rfl (ov_pick rfl rfl rfl rfl) ?_
      exact rd_weak (sub_cons rfl (sub_skip rfl (sub_skip rfl (sub_skip rfl (sub_skip rfl (sub_skip rfl (sub_skip rfl (sub_skip rfl (sub_skip rfl (sub_skip rfl (sub_skip rfl (sub_skip rfl (sub_refl _))))))))))))) k
    refine rd_op (v := vb ((decide (0 < (y129.length : Int))) && (!decide ((y129.length : Int) = (((ix x0.Tables (((ix x2 0) % 16#32).toNat : Int)).Keys).length : Int))))) (ov_pick rfl rfl rfl rfl) ?_
    exact rd_weak (sub_cons rfl (sub_skip rfl (sub_skip rfl (sub_skip rfl (sub_skip rfl (sub_skip rfl (sub_skip rfl (sub_refl _)))))))) k
   ·intro k
    simp only [ac7_G5, List.cons_append, List.nil_append, List.append_assoc]
    refine rd_skip rfl rfl ?_
    refine rd_skip rfl rfl ?_
    refine rd_skip rfl rfl ?_
    refine rd_skip rfl rfl ?_
    refine rd_skipU rfl ?_
    refine rd_skipU rfl ?_
    refine rd_skipU rfl ?_
    refine rd_skipU rfl ?_
    refine rd_skipU rfl ?_
    refine rd_skipU rfl ?_
    refine rd_skipU rfl ?_
    refine rd_skipU rfl ?_
    refine rd_skipU rfl ?_
    refine rd_skipU rfl ?_
    refine rd_skip rfl rfl ?_
    refine rd_op (v := vb true) (ov_pick rfl rfl rfl rfl) ?_
    exact rd_weak (sub_cons rfl (sub_skip rfl (sub_skip rfl (sub_skip rfl (sub_skip rfl (sub_skip rfl (sub_skip rfl (sub_skip rfl (sub_skip rfl (sub_skip rfl (sub_skip rfl (sub_skip rfl (sub_skip rfl (sub_skip rfl (sub_skip rfl (sub_skip rfl (sub_skip rfl (sub_refl _)))))))))))))))))) k
  refine rd_nil ?_
  refine pn_seq ?_
  refine rc_cond rfl (fun hc136 => ?_) (fun hc136 => ?_)
  ·replace hres := (ite_t hc136).symm.trans hres
   have hc136' := hc136
   try simp only [qa1, qa2, qa3, qa4, qa5, qa6, qa7, qa8, qa9, qaA, qaB, qaC, qaD] at hc136'
   refine rc_seq ?_
   refine rc_region ?_
   refine rd_op (v := vb false) (ov_move rfl) ?_
   refine rd_nil ?_
   refine pn_seq ?_
   subst hres
   exact rc_retV (.tmp rfl .nil) (deep_closed rfl) rfl
  ·replace hres := (ite_f hc136).symm.trans hres
   have hc136' := hc136
   try simp only [qa1, qa2, qa3, qa4, qa5, qa6, qa7, qa8, qa9, qaA, qaB, qaC, qaD] at hc136'
   refine rc_skip ?_
   refine pn_seq ?_
   refine rc_seq ?_
   refine rc_seq ?_
   refine rc_region ?_
   refine rd_op (v := vi 0) (ov_move rfl) ?_
   refine rd_nil ?_
   refine pn_seq ?_
   refine rc_block ?_
   refine rc_weak ?_ (law17_TableKeyOf_L1_ok (x0 := x0) (x1 := x1) (x2 := x2) (y103 := y103) (y112 := y112) (y129 := y129) (v0 := v0) (v2 := v2) (v113 := v113) (nw121 := nw121) (a121 := (.os i125 w125 0 m125)) (v128 := v128) (v130 := v130) (m125 := m125) (r0 := r0) (r2 := r2) (hw103 := hw103) (hc110 := hc110) (hw112 := hw112) (r113 := r113) (ar121 := ar121) (wr121 := wr121) (hl121 := hl121) (n121 := n121) (hn125 := hn125) (h0_126 := h0_126) (h1_126 := h1_126) (hl127 := hl127) (hn127 := hn127) (b128 := b128) (hw129 := hw129) (r130 := r130) (hc136 := hc136) ?_ (Int.toNat ((y129.length : Int) - 0)) 0 rfl (by omega) _ (Mem.sub M128 .slnil) hres)
   ·exact ((sub_cons rfl (sub_cons rfl (sub_cons rfl (sub_cons rfl (sub_cons rfl (sub_cons rfl (sub_cons rfl (sub_nil _)))))))))
   ·intro h156 M156 hres
    refine px_blk ?_
    refine pn_seq ?_
    refine rc_seq ?_
    refine rc_region ?_
    obtain ⟨y157, hw157, hres⟩ := let_ex hres
    have f157 := f15_ok   
    rw [hw157] at f157
    refine rd_call (cv_fn rfl rfl clL_nil f157) ?_
    refine rd_op (ov_move rfl) ?_
    refine rd_nil ?_
    refine pn_seq ?_
    subst hres
    exact rc_retV (.tmp rfl .nil) (deep_closed rfl) rfl

end Go.Proofs.Ytklfdkbemkommaa
