/-
  The code of each function does what its plain program says.
-/
import Derived.Test.YthdnpgpnodgicaaGreatL3W0
set_option linter.unusedVariables false
set_option linter.unusedSimpArgs false
set_option maxRecDepth 100000
namespace Go.Proofs.YthdnpgpnodgicaaGreat
open Go Go.Pb Go.RowKit
theorem f11_ok : FnR Tryz.prog 11 [] (vb law24_works) := run11

def RF30 (res : Bool) (r : PV) : Prop := r = vb res
theorem entry_Matches_L1_ok {S : List Fr} {res : Bool} {x0 : api_Entry} {x1 : List (BitVec 32)} {v1 a7 : PV} (r1 : (tSl tU32).R x1 v1) (a5 : (!decide ((x1.length : Int) = (x0.Keys.length : Int))) = false) (a8 : (tSl api_KeyMatch.t).R x0.Keys a7) {K0 : Unit → Bool}
    (b6 : ∀ {h : Heap} (M0 : Mem h []), K0 () = res → PX Tryz.prog 0 S (QR Tryz.prog [(4, none)] (RF30 res)) [] h) :
    ∀ {m : Nat} {a0 : Int} (b4 : m = Int.toNat ((x0.Keys.length : Int) - a0)) (a4 : 0 ≤ a0) {h : Heap} (M0 : Mem h []), entry_Matches_L1 x0 x1 K0 m a0 = res → RC Tryz.prog (.loop ac30_L1) S (QR Tryz.prog [(4, none)] (RF30 res)) [(16, vi a0), (15, vi (x0.Keys.length : Int)), (14, a7), (1, v1)] h := by
  have a3 := a5
  try simp only [qa, qaD] at a3
  intro m
  induction m with
  | zero =>
    intro a0 b4 a4 h M0 hres
    rw [entry_Matches_L1] at hres
    refine rc_loop ?_
    refine sR ?_
    refine bN i_lss rfl rfl ?_
    refine nS ?_
    refine rc_seq ?_
    refine rc_cond rfl ?_ ?_ <;> intro c <;> try simp only [qa, qaD] at c
    · omega
    refine rc_exit ?_
    refine px_seq ?_
    refine px_again ?_
    exact wP (b6 (Mem.sub M0 .slnil) hres) rfl
  | succ m ih =>
    intro a0 b4 a4 h M0 hres
    rw [entry_Matches_L1] at hres
    refine rc_loop ?_
    refine sR ?_
    refine bN i_lss rfl rfl ?_
    refine nS ?_
    refine rc_seq ?_
    refine rc_cond rfl ?_ ?_ <;> intro c <;> try simp only [qa, qaD] at c
    rotate_left
    · omega
    refine rc_skip ?_
    refine pn_seq ?_
    refine rc_seq ?_
    refine rc_block ?_
    refine sR ?_
    refine mV rfl ?_
    obtain ⟨a6, b2, a2⟩ := sl_idx (i := a0) a8 (by first | omega | (have hk := em_len (by assumption) (by assumption); omega)) (by first | omega | (have hk := em_len (by assumption) (by assumption); omega))
    refine rd_op (ov_iaddr rfl rfl b2) ?_
    refine lD a2 rfl rfl rfl ?_
    refine rd_allocO (x := .agg [vu32 0#32, vu32 0#32]) M0 rfl rfl (fun a9 b0 b5 b3 => ?_)
    refine mV rfl ?_
    refine rd_storeO (k := 0) (v := a6) b3 rfl rfl rfl (TR.cnt api_KeyMatch.t a2) (fun b1 a1 => ?_)
    replace a1 : Mem b1 [⟨.op a9 b0 0, 127, 2, [a6]⟩] := a1
    refine nR ?_
    refine mV rfl ?_
    refine mV rfl ?_
    refine rd_op (ov_iaddr rfl rfl (slU32 r1 (by first | omega | (have hk := em_len (by assumption) (by assumption); omega)) (by first | omega | (have hk := em_len (by assumption) (by assumption); omega)))) ?_
    refine lR rfl rfl rfl ?_
    refine rd_op (ov_faddrO rfl) ?_
    refine rd_op (ov_loadf (k := 0) a1 rfl rfl (api_KeyMatch.g_Value a2)) ?_
    refine rd_op (ov_bin (a := vu32 (ix x1 a0)) (b := vu32 ((ix x0.Keys a0).Value)) rfl rfl w_xor) ?_
    refine rd_op (ov_faddrO rfl) ?_
    refine rd_op (ov_loadf (k := 0) a1 rfl rfl (api_KeyMatch.g_Mask a2)) ?_
    refine rd_op (ov_bin (a := vu32 ((ix x1 a0) ^^^ ((ix x0.Keys a0).Value))) (b := vu32 ((ix x0.Keys a0).Mask)) rfl rfl w_and) ?_
    refine rd_op (ov_bin (a := vu32 (((ix x1 a0) ^^^ ((ix x0.Keys a0).Value)) &&& ((ix x0.Keys a0).Mask))) (b := vu32 0#32) rfl rfl w_neq) ?_
    refine nS ?_
    refine rc_br hres rfl ?_ ?_ <;> clear hres <;> intro c hres <;> try simp only [qa, qaD] at c
    · refine sR ?_
      refine mB rfl ?_
      refine nS ?_
      exact rR hres rfl rfl rfl
    · refine rc_skip ?_
      refine pn_blk ?_
      refine pn_seq ?_
      refine rc_region ?_
      refine bN i_add rfl rfl ?_
      refine mV rfl ?_
      refine rd_nil ?_
      refine pn_again ?_
      have hbd := sl_bound a8
      have hinc : wr (a0 + 1) = a0 + 1 := wr_of (by omega) (by omega)
      erw [hinc]
      exact wC (ih   (by omega) (by omega) (Mem.sub a1 (.cons _ .slnil)) hres) rfl

theorem f30_ok {x0 : api_Entry} {x1 : List (BitVec 32)} {v0 v1 : PV} (r0 : api_Entry.t.R x0 v0) (r1 : (tSl tU32).R x1 v1) : FnR Tryz.prog 30 [v0, v1] (vb (entry_Matches x0 x1)) := by
  refine fnS (R := RF30) text30 (fun _ h => h) rfl fun res hres => ?_
  unfold entry_Matches at hres
  refine sR ?_
  refine rd_op (ov_box rfl (TR.cnt api_Entry.t r0)) ?_
  refine mB rfl ?_
  refine nS ?_
  refine rc_seq ?_
  refine sR ?_
  refine mV rfl ?_
  refine rd_op (ov_bi rfl (sl_len r1 Tryz.underlying33 _)) ?_
  refine gL (api_Entry.g_Keys r0) rfl rfl rfl fun a4 a3 => ?_
  refine rd_op (ov_bi rfl (sl_len a3 Tryz.underlying38 _)) ?_
  refine bN i_neq rfl rfl ?_
  refine nS ?_
  refine rc_br hres rfl ?_ ?_ <;> clear hres <;> intro a0 hres <;> have a1 := a0 <;> try simp only [qa, qaD] at a1
  · refine sR ?_
    refine mB rfl ?_
    refine nS ?_
    exact rR hres rfl rfl rfl
  · refine rc_skip ?_
    refine pn_seq ?_
    refine rc_seq ?_
    refine sR ?_
    refine gL (api_Entry.g_Keys r0) rfl rfl rfl fun a5 a2 => ?_
    refine rd_op (ov_bi rfl (sl_len a2 Tryz.underlying38 _)) ?_
    refine mI rfl ?_
    refine nS ?_
    refine rc_block ?_
    refine wC (entry_Matches_L1_ok r1 a0 a2 ?_  rfl (by omega) (Mem.sub (Mem.nil ⟨0, []⟩) .slnil) hres) rfl
    · intro a6 a7 hres
      refine px_blk ?_
      refine pn_seq ?_
      refine sR ?_
      refine mB rfl ?_
      refine nS ?_
      exact rR hres rfl rfl rfl

def RF31 (res : api_Row × Bool) (r : PV) : Prop := ∃ c0, r = .tup [c0, vb res.2] ∧ api_Row.t.R res.1 c0
theorem lookup_find_api_Row_L1_ok {S : List Fr} {res : api_Row × Bool} {x0 : List api_Row} {x1 : api_Row → Bool} {v0 v1 : PV} {a8 a6 : Nat} (r0 : (tSl api_Row.t).R x0 v0) (r1 : (tFn Tryz.prog api_Row.t tB).R x1 v1) {K0 : api_Row → (api_Row × Bool)}
    (c1 : ∀ {a2 : api_Row} {a0 : PV} (a4 : api_Row.t.R a2 a0) {h : Heap} (M0 : Mem h [⟨.op a8 a6 0, 44, 5, [a0]⟩]), K0 a2 = res → PX Tryz.prog 0 S (QR Tryz.prog [(4, some (5, true)), (5, none)] (RF31 res)) [(4, .op a8 a6 0)] h) :
    ∀ {m : Nat} {a1 : Int} {a2 : api_Row} {a0 : PV} (a4 : api_Row.t.R a2 a0) (b9 : m = Int.toNat ((x0.length : Int) - a1)) (b2 : 0 ≤ a1) {h : Heap} (M0 : Mem h [⟨.op a8 a6 0, 44, 5, [a0]⟩]), lookup_find_api_Row_L1 x0 x1 K0 m a1 a2 = res → RC Tryz.prog (.loop ac31_L1) S (QR Tryz.prog [(4, some (5, true)), (5, none)] (RF31 res)) [(11, vi a1), (10, vi (x0.length : Int)), (9, v0), (4, .op a8 a6 0), (1, v1)] h := by
  intro m
  induction m with
  | zero =>
    intro a1 a2 a0 a4 b9 b2 h M0 hres
    rw [lookup_find_api_Row_L1] at hres
    refine rc_loop ?_
    refine sR ?_
    refine bN i_lss rfl rfl ?_
    refine nS ?_
    refine rc_seq ?_
    refine rc_cond rfl ?_ ?_ <;> intro c <;> try simp only [qa, qaD] at c
    · omega
    refine rc_exit ?_
    refine px_seq ?_
    refine px_again ?_
    exact wP (c1 a4 (Mem.sub M0 (.cons_cons _ .slnil)) hres) rfl
  | succ m ih =>
    intro a1 a2 a0 a4 b9 b2 h M0 hres
    rw [lookup_find_api_Row_L1] at hres
    refine rc_loop ?_
    refine sR ?_
    refine bN i_lss rfl rfl ?_
    refine nS ?_
    refine rc_seq ?_
    refine rc_cond rfl ?_ ?_ <;> intro c <;> try simp only [qa, qaD] at c
    rotate_left
    · omega
    refine rc_skip ?_
    refine pn_seq ?_
    refine rc_seq ?_
    refine rc_block ?_
    refine sR ?_
    obtain ⟨a5, b5, a3⟩ := sl_idx (i := a1) r0 (by first | omega | (have hk := em_len (by assumption) (by assumption); omega)) (by first | omega | (have hk := em_len (by assumption) (by assumption); omega))
    refine rd_op (ov_iaddr rfl rfl b5) ?_
    refine lD a3 rfl rfl rfl ?_
    refine rd_allocO (x := .agg [vi 0, nilS, vi 0, vi 0, nilS]) M0 rfl rfl (fun b3 b1 c0 b6 => ?_)
    refine rd_storeO (k := 0) (v := a5) b6 rfl rfl rfl (TR.cnt api_Row.t a3) (fun b8 a7 => ?_)
    replace a7 : Mem b8 [⟨.op b3 b1 0, 44, 5, [a5]⟩, ⟨.op a8 a6 0, 44, 5, [a0]⟩] := a7
    refine nR ?_
    refine mV rfl ?_
    refine rd_op (ov_load0 (k := 0) a7 rfl rfl (TR.agg api_Row.t a3)) ?_
    refine rd_callF rfl r1 rfl (show api_Row.t.R (ix x0 a1) a5 from a3) (fun b4 a9 => ?_)
    have a9 : b4 = vb (x1 (ix x0 a1)) := a9; subst a9
    refine nS ?_
    refine rc_br hres rfl ?_ ?_ <;> clear hres <;> intro c hres <;> try simp only [qa, qaD] at c
    · refine sR ?_
      refine rd_op (ov_load0 (k := 0) a7 rfl rfl (TR.agg api_Row.t a3)) ?_
      refine rd_storeO (k := 1) (v := a5) a7 rfl rfl rfl (TR.cnt api_Row.t a3) (fun b7 b0 => ?_)
      replace b0 : Mem b7 [⟨.op b3 b1 0, 44, 5, [a5]⟩, ⟨.op a8 a6 0, 44, 5, [a5]⟩] := b0
      refine mB rfl ?_
      refine nS ?_
      subst hres
      exact rc_retV (.cell rfl (load_whole (k := 1) b0 rfl (TR.agg api_Row.t a3)) (.tmp rfl .nil)) (deep_closed (show closed (.tup _) = true from (clL_cons (TR.clo api_Row.t a3) (clL_cons rfl clL_nil)))) ⟨a5, rfl, a3⟩
    · refine rc_skip ?_
      refine pn_blk ?_
      refine pn_seq ?_
      refine rc_region ?_
      refine bN i_add rfl rfl ?_
      refine mV rfl ?_
      refine rd_nil ?_
      refine pn_again ?_
      have hbd := sl_bound r0
      have hinc : wr (a1 + 1) = a1 + 1 := wr_of (by omega) (by omega)
      erw [hinc]
      exact wC (ih  a4 (by omega) (by omega) (Mem.sub a7 (.cons _ (.cons_cons _ .slnil))) hres) rfl

theorem f31_ok {x0 : List api_Row} {x1 : api_Row → Bool} {v0 v1 : PV} (r0 : (tSl api_Row.t).R x0 v0) (r1 : (tFn Tryz.prog api_Row.t tB).R x1 v1) : ∃ c0, FnR Tryz.prog 31 [v0, v1] (.tup [c0, vb ((lookup_find_api_Row x0 x1).2)]) ∧ api_Row.t.R (lookup_find_api_Row x0 x1).1 c0 := by
  obtain ⟨res, hres⟩ : ∃ res, lookup_find_api_Row x0 x1 = res := ⟨_, rfl⟩
  suffices H : RC Tryz.prog ac31 [] (QR Tryz.prog [(4, some (5, true)), (5, none)] (RF31 res)) (argE 0 [v0, v1]) ⟨0, []⟩ by
    rw [hres]
    obtain ⟨r, h1, c0, rfl, b1⟩ := fnE text31 (by simp) H
    exact ⟨c0, h1, b1⟩
  unfold lookup_find_api_Row at hres
  refine sR ?_
  refine rd_allocO (x := .agg [vi 0, nilS, vi 0, vi 0, nilS]) (Mem.nil ⟨0, []⟩) rfl rfl (fun a8 a5 b0 a4 => ?_)
  refine mB rfl ?_
  refine nS ?_
  refine rc_seq ?_
  refine sR ?_
  refine mV rfl ?_
  refine rd_op (ov_bi rfl (sl_len r0 Tryz.underlying32 _)) ?_
  refine mI rfl ?_
  refine nS ?_
  refine rc_block ?_
  refine wC (lookup_find_api_Row_L1_ok r0 r1 ?_  (show api_Row.t.R ({ ID := 0, Entry := ({ Keys := ([] : List api_KeyMatch), Priority := 0, Call := ({ Action := 0, Args := ([] : List (BitVec 32)) } : api_ActionCall) } : api_Entry) } : api_Row) (.agg [vi 0, nilS, vi 0, vi 0, nilS]) from ⟨nilS, nilS, rfl, sl_nil, sl_nil⟩) rfl (by omega) (Mem.sub a4 (.cons_cons _ .slnil)) hres) rfl
  · intro a1 a2 a3 a9 a7 hres
    refine px_blk ?_
    refine pn_seq ?_
    refine sR ?_
    refine rd_op (ov_allocv (x := .agg [vi 0, nilS, vi 0, vi 0, nilS]) rfl rfl) ?_
    refine nR ?_
    refine lR rfl rfl rfl ?_
    refine rd_storeO (k := 0) (v := .agg [vi 0, nilS, vi 0, vi 0, nilS]) a7 rfl rfl rfl rfl (fun a6 a0 => ?_)
    replace a0 : Mem a6 [⟨.op a8 a5 0, 44, 5, [.agg [vi 0, nilS, vi 0, vi 0, nilS]]⟩] := a0
    refine mB rfl ?_
    refine nS ?_
    subst hres
    exact rc_retV (.cell rfl (load_whole (k := 0) a0 rfl rfl) (.tmp rfl .nil)) (deep_closed (show closed (.tup _) = true from (clL_cons (TR.clo api_Row.t (show api_Row.t.R ({ ID := 0, Entry := ({ Keys := ([] : List api_KeyMatch), Priority := 0, Call := ({ Action := 0, Args := ([] : List (BitVec 32)) } : api_ActionCall) } : api_Entry) } : api_Row) (.agg [vi 0, nilS, vi 0, vi 0, nilS]) from ⟨nilS, nilS, rfl, sl_nil, sl_nil⟩)) (clL_cons rfl clL_nil)))) ⟨.agg [vi 0, nilS, vi 0, vi 0, nilS], rfl, ⟨nilS, nilS, rfl, sl_nil, sl_nil⟩⟩

def RF107 (res : Int) (r : PV) : Prop := r = vi res
theorem bitvec_OnesCount_L1_ok {S : List Fr} {res : Int} {x0 : BitVec 32} {K0 : Int → Int}
    (a4 : ∀ {a1 : Int}, K0 a1 = res → PX Tryz.prog 0 S (QR Tryz.prog [(2, none)] (RF107 res)) [(3, vi a1)] ⟨0, []⟩) :
    ∀ {m : Nat} {a1 a0 : Int} (a3 : m = Int.toNat (32 - a0)) (a2 : 0 ≤ a0), bitvec_OnesCount_L1 x0 K0 m a1 a0 = res → RC Tryz.prog (.loop ac107_L1) S (QR Tryz.prog [(2, none)] (RF107 res)) [(5, vi a0), (3, vi a1), (0, vu32 x0)] ⟨0, []⟩ := by
  intro m
  induction m with
  | zero =>
    intro a1 a0 a3 a2 hres
    rw [bitvec_OnesCount_L1] at hres
    refine rc_loop ?_
    refine sR ?_
    refine bN i_lss rfl rfl ?_
    refine nS ?_
    refine rc_seq ?_
    refine rc_cond rfl ?_ ?_ <;> intro c <;> try simp only [qa, qaD] at c
    · omega
    refine rc_exit ?_
    refine px_seq ?_
    refine px_again ?_
    exact wP (a4  hres) rfl
  | succ m ih =>
    intro a1 a0 a3 a2 hres
    rw [bitvec_OnesCount_L1] at hres
    refine rc_loop ?_
    refine sR ?_
    refine bN i_lss rfl rfl ?_
    refine nS ?_
    refine rc_seq ?_
    refine rc_cond rfl ?_ ?_ <;> intro c <;> try simp only [qa, qaD] at c
    rotate_left
    · omega
    refine rc_skip ?_
    refine pn_seq ?_
    refine rc_seq ?_
    refine rc_block ?_
    refine sR ?_
    refine mV rfl ?_
    refine mV rfl ?_
    refine nS ?_
    refine rc_region ?_
    refine mV rfl ?_
    refine mV rfl ?_
    refine mV rfl ?_
    refine rd_op (ov_bin (a := vu32 x0) (b := vi a0) rfl rfl (w_shr (by first | omega | (rw [wr_of (by omega) (by omega)]; omega)))) ?_
    refine rd_op (ov_bin (a := vu32 (x0 >>> a0.toNat)) (b := vu32 1#32) rfl rfl w_and) ?_
    refine rd_op (ov_conv (a := vu32 ((x0 >>> a0.toNat) &&& 1#32)) rfl (c_wi Tryz.underlying64 Tryz.underlying3)) ?_
    refine bN i_add rfl rfl ?_
    refine mV rfl ?_
    refine rd_nil ?_
    refine pn_blk ?_
    refine pn_seq ?_
    refine rc_region ?_
    refine bN i_add rfl rfl ?_
    refine mV rfl ?_
    refine rd_nil ?_
    refine pn_again ?_
    have hinc : wr (a0 + 1) = a0 + 1 := wr_of (by omega) (by omega)
    erw [hinc]
    exact wC (ih   (by omega) (by omega) hres) rfl

theorem f107_ok {x0 : BitVec 32} : FnR Tryz.prog 107 [vu32 x0] (vi (bitvec_OnesCount x0)) := by
  refine fnS (R := RF107) text107 (fun _ h => h) rfl fun res hres => ?_
  unfold bitvec_OnesCount at hres
  refine sR ?_
  refine mI rfl ?_
  refine nR ?_
  refine mI rfl ?_
  refine nS ?_
  refine rc_seq ?_
  refine sR ?_
  refine mI rfl ?_
  refine nS ?_
  refine rc_block ?_
  refine wC (bitvec_OnesCount_L1_ok  ?_  rfl (by omega) hres) rfl
  · intro a0 hres
    refine px_blk ?_
    refine pn_seq ?_
    refine sR ?_
    refine mV rfl ?_
    refine mV rfl ?_
    refine nS ?_
    exact rR hres rfl rfl rfl

def RF68 (res : Int) (r : PV) : Prop := r = vi res
theorem entry_prefix_L1_ok {S : List Fr} {res : Int} {x0 : api_Program} {x1 : Int} {x2 : api_Entry} {v2 a7 : PV} (r2 : api_Entry.t.R x2 v2) (a8 : ((decide (x1 < 0)) || (decide ((x0.Tables.length : Int) ≤ x1))) = false) (a4 : (tSl api_TableKey.t).R ((ix x0.Tables x1).Keys) a7) {K0 : Unit → Int}
    (c6 : ∀ {h : Heap} (M0 : Mem h []), K0 () = res → PX Tryz.prog 0 S (QR Tryz.prog [(6, none)] (RF68 res)) [] h) :
    ∀ {m : Nat} {a0 : Int} (c0 : m = Int.toNat ((((ix x0.Tables x1).Keys).length : Int) - a0)) (a5 : 0 ≤ a0) {h : Heap} (M0 : Mem h []), entry_prefix_L1 x0 x1 x2 K0 m a0 = res → RC Tryz.prog (.loop ac68_L1) S (QR Tryz.prog [(6, none)] (RF68 res)) [(25, vi a0), (24, vi (((ix x0.Tables x1).Keys).length : Int)), (23, a7), (5, .fp v2)] h := by
  have a3 := a8
  try simp only [qa, qaD] at a3
  intro m
  induction m with
  | zero =>
    intro a0 c0 a5 h M0 hres
    rw [entry_prefix_L1] at hres
    refine rc_loop ?_
    refine sR ?_
    refine bN i_lss rfl rfl ?_
    refine nS ?_
    refine rc_seq ?_
    refine rc_cond rfl ?_ ?_ <;> intro c <;> try simp only [qa, qaD] at c
    · omega
    refine rc_exit ?_
    refine px_seq ?_
    refine px_again ?_
    exact wP (c6 (Mem.sub M0 .slnil) hres) rfl
  | succ m ih =>
    intro a0 c0 a5 h M0 hres
    rw [entry_prefix_L1] at hres
    refine rc_loop ?_
    refine sR ?_
    refine bN i_lss rfl rfl ?_
    refine nS ?_
    refine rc_seq ?_
    refine rc_cond rfl ?_ ?_ <;> intro c <;> try simp only [qa, qaD] at c
    rotate_left
    · omega
    refine rc_skip ?_
    refine pn_seq ?_
    refine rc_seq ?_
    refine rc_block ?_
    refine sR ?_
    refine mV rfl ?_
    obtain ⟨a6, b5, a2⟩ := sl_idx (i := a0) a4 (by first | omega | (have hk := em_len (by assumption) (by assumption); omega)) (by first | omega | (have hk := em_len (by assumption) (by assumption); omega))
    refine rd_op (ov_iaddr rfl rfl b5) ?_
    refine lD a2 rfl rfl rfl ?_
    refine rd_allocO (x := .agg [vi 0, vi 0, vi 0]) M0 rfl rfl (fun b9 b6 c7 b2 => ?_)
    refine mV rfl ?_
    refine rd_storeO (k := 0) (v := a6) b2 rfl rfl rfl (TR.cnt api_TableKey.t a2) (fun b3 a1 => ?_)
    replace a1 : Mem b3 [⟨.op b9 b6 0, 112, 3, [a6]⟩] := a1
    refine nR ?_
    refine rd_op (ov_faddrO rfl) ?_
    refine rd_op (ov_loadf (k := 0) a1 rfl rfl (api_TableKey.g_Kind a2)) ?_
    refine bN i_eql rfl rfl ?_
    refine nS ?_
    refine rc_br hres rfl ?_ ?_ <;> clear hres <;> intro c hres <;> try simp only [qa, qaD] at c
    · refine rc_seq ?_
      refine sR ?_
      refine mV rfl ?_
      refine gL (api_Entry.g_Keys r2) rfl rfl rfl fun c3 b1 => ?_
      refine rd_op (ov_bi rfl (sl_len b1 Tryz.underlying38 _)) ?_
      refine bN i_lss rfl rfl ?_
      refine nS ?_
      refine rc_br hres rfl ?_ ?_ <;> clear hres <;> intro c hres <;> try simp only [qa, qaD] at c
      · refine sR ?_
        refine gL (api_Entry.g_Keys r2) rfl rfl rfl fun c5 b7 => ?_
        refine mV rfl ?_
        obtain ⟨c1, b4, b8⟩ := sl_idx (i := a0) b7 (by first | omega | (have hk := em_len (by assumption) (by assumption); omega)) (by first | omega | (have hk := em_len (by assumption) (by assumption); omega))
        refine rd_op (ov_iaddr rfl rfl b4) ?_
        refine fL rfl (api_KeyMatch.g_Mask b8) rfl rfl ?_
        obtain ⟨c4, b0, hres⟩ := let_ex hres
        have a9 := f107_ok (x0 := (ix x2.Keys a0).Mask)  
        rw [b0] at a9
        refine cL a9 rfl rfl (clL_cons rfl clL_nil) ?_
        refine mV rfl ?_
        refine nS ?_
        exact rR hres rfl rfl rfl
      · refine rc_skip ?_
        refine pn_seq ?_
        refine sR ?_
        refine mI rfl ?_
        refine nS ?_
        exact rR hres rfl rfl rfl
    · refine rc_skip ?_
      refine pn_blk ?_
      refine pn_seq ?_
      refine rc_region ?_
      refine bN i_add rfl rfl ?_
      refine mV rfl ?_
      refine rd_nil ?_
      refine pn_again ?_
      have hbd := sl_bound a4
      have hinc : wr (a0 + 1) = a0 + 1 := wr_of (by omega) (by omega)
      erw [hinc]
      exact wC (ih   (by omega) (by omega) (Mem.sub a1 (.cons _ .slnil)) hres) rfl

theorem f68_ok {x0 : api_Program} {x1 : Int} {x2 : api_Entry} {v0 v2 : PV} (r0 : api_Program.t.R x0 v0) (r2 : api_Entry.t.R x2 v2) : FnR Tryz.prog 68 [v0, vi x1, v2] (vi (entry_prefix x0 x1 x2)) := by
  refine fnS (R := RF68) text68 (fun _ h => h) rfl fun res hres => ?_
  unfold entry_prefix at hres
  refine sR ?_
  refine rd_op (ov_box rfl (TR.cnt api_Program.t r0)) ?_
  refine rd_op (ov_box rfl (TR.cnt api_Entry.t r2)) ?_
  refine mI rfl ?_
  refine nS ?_
  refine rc_seq ?_
  refine sR ?_
  refine mV rfl ?_
  refine bN i_lss rfl rfl ?_
  refine mV rfl ?_
  refine rd_cutn 6 (d := 17) (v := vb ((decide (x1 < 0)) || (decide ((x0.Tables.length : Int) ≤ x1)))) ?_ ?_
  · intro S Q r
    cases a6 : (decide (x1 < 0))
    · intro k
      have a2 := a6
      try simp only [qa, qaD] at a2
      refine rd_yes rfl rfl (ov_move rfl) ?_
      obtain ⟨b7, a8, a4⟩ := api_Program.g_Tables r0
      refine rd_yes rfl rfl (ov_faddr rfl a8) ?_
      refine rd_yes rfl rfl (ov_load rfl (TR.cnt (tSl api_Table.t) a4) (TR.agg (tSl api_Table.t) a4)) ?_
      refine rd_yes rfl rfl (ov_bi rfl (sl_len a4 Tryz.underlying26 _)) ?_
      refine rd_yes rfl rfl (ov_bin rfl rfl i_geq) ?_
      exact gK rfl rfl rfl rfl rfl k
    · exact gN 5 rfl rfl rfl rfl rfl rfl
  refine nS ?_
  refine rc_br hres rfl ?_ ?_ <;> clear hres <;> intro a0 hres <;> have a3 := a0 <;> try simp only [qa, qaD] at a3
  · refine sR ?_
    refine mI rfl ?_
    refine nS ?_
    exact rR hres rfl rfl rfl
  · refine rc_skip ?_
    refine pn_seq ?_
    refine rc_seq ?_
    refine sR ?_
    obtain ⟨b5, a7, a5⟩ := api_Program.g_Tables r0
    refine fA rfl a7 ?_
    refine lD a5 rfl rfl rfl ?_
    refine mV rfl ?_
    obtain ⟨b2, b1, a9⟩ := sl_idx (i := x1) a5 (by first | omega | (have hk := em_len (by assumption) (by assumption); omega)) (by first | omega | (have hk := em_len (by assumption) (by assumption); omega))
    refine rd_op (ov_iaddr rfl rfl b1) ?_
    obtain ⟨b4, b0, a1⟩ := api_Table.g_Keys a9
    refine fA rfl b0 ?_
    refine lD a1 rfl rfl rfl ?_
    refine rd_op (ov_bi rfl (sl_len a1 Tryz.underlying85 _)) ?_
    refine mI rfl ?_
    refine nS ?_
    refine rc_block ?_
    refine wC (entry_prefix_L1_ok r2 a0 a1 ?_  rfl (by omega) (Mem.sub (Mem.nil ⟨0, []⟩) .slnil) hres) rfl
    · intro b6 b3 hres
      refine px_blk ?_
      refine pn_seq ?_
      refine sR ?_
      refine mI rfl ?_
      refine nS ?_
      exact rR hres rfl rfl rfl

def RF34 (res : Bool) (r : PV) : Prop := r = vb res
theorem f34_ok {x0 : api_Program} {x1 : Int} {x2 : api_Row} {x3 : api_Row} {v0 v2 v3 : PV} (r0 : api_Program.t.R x0 v0) (r2 : api_Row.t.R x2 v2) (r3 : api_Row.t.R x3 v3) : FnR Tryz.prog 34 [v0, vi x1, v2, v3] (vb (entry_Precedes x0 x1 x2 x3)) := by
  refine fnS (R := RF34) text34 (fun _ h => h) rfl fun res hres => ?_
  unfold entry_Precedes at hres
  refine sR ?_
  refine rd_op (ov_box rfl (TR.cnt api_Program.t r0)) ?_
  refine rd_op (ov_box rfl (TR.cnt api_Row.t r2)) ?_
  refine rd_op (ov_box rfl (TR.cnt api_Row.t r3)) ?_
  refine mB rfl ?_
  refine nS ?_
  refine rc_seq ?_
  refine sR ?_
  obtain ⟨b7, a7, b5⟩ := api_Row.g_Entry r2
  refine fA rfl a7 ?_
  refine fL rfl (api_Entry.g_Priority b5) rfl rfl ?_
  obtain ⟨c4, a9, b4⟩ := api_Row.g_Entry r3
  refine fA rfl a9 ?_
  refine fL rfl (api_Entry.g_Priority b4) rfl rfl ?_
  refine bN i_neq rfl rfl ?_
  refine nS ?_
  refine rc_br hres rfl ?_ ?_ <;> clear hres <;> intro c hres <;> try simp only [qa, qaD] at c
  · refine sR ?_
    obtain ⟨c3, a8, a6⟩ := api_Row.g_Entry r2
    refine fA rfl a8 ?_
    refine fL rfl (api_Entry.g_Priority a6) rfl rfl ?_
    obtain ⟨b8, b3, b0⟩ := api_Row.g_Entry r3
    refine fA rfl b3 ?_
    refine fL rfl (api_Entry.g_Priority b0) rfl rfl ?_
    refine bN i_gtr rfl rfl ?_
    refine mV rfl ?_
    refine nS ?_
    exact rR hres rfl rfl rfl
  · refine rc_skip ?_
    refine pn_seq ?_
    refine rc_seq ?_
    refine sR ?_
    refine lD r0 rfl rfl rfl ?_
    refine mV rfl ?_
    obtain ⟨c0, b2, a0⟩ := api_Row.g_Entry r2
    refine fA rfl b2 ?_
    refine lD a0 rfl rfl rfl ?_
    obtain ⟨b6, a5, hres⟩ := let_ex hres
    have a3 := f68_ok (x1 := x1) r0 a0 
    rw [a5] at a3
    refine cL a3 rfl rfl (clL_cons (TR.clo api_Program.t r0) (clL_cons rfl (clL_cons (TR.clo api_Entry.t a0) clL_nil))) ?_
    refine lD r0 rfl rfl rfl ?_
    refine mV rfl ?_
    obtain ⟨b9, b1, a1⟩ := api_Row.g_Entry r3
    refine fA rfl b1 ?_
    refine lD a1 rfl rfl rfl ?_
    obtain ⟨c1, a2, hres⟩ := let_ex hres
    have a4 := f68_ok (x1 := x1) r0 a1 
    rw [a2] at a4
    refine cL a4 rfl rfl (clL_cons (TR.clo api_Program.t r0) (clL_cons rfl (clL_cons (TR.clo api_Entry.t a1) clL_nil))) ?_
    refine mV rfl ?_
    refine mV rfl ?_
    refine nR ?_
    refine mV rfl ?_
    refine mV rfl ?_
    refine bN i_neq rfl rfl ?_
    refine nS ?_
    refine rc_br hres rfl ?_ ?_ <;> clear hres <;> intro c hres <;> try simp only [qa, qaD] at c
    · refine sR ?_
      refine mV rfl ?_
      refine mV rfl ?_
      refine bN i_gtr rfl rfl ?_
      refine mV rfl ?_
      refine nS ?_
      exact rR hres rfl rfl rfl
    · refine rc_skip ?_
      refine pn_seq ?_
      refine sR ?_
      refine fL rfl (api_Row.g_ID r2) rfl rfl ?_
      refine fL rfl (api_Row.g_ID r3) rfl rfl ?_
      refine bN i_lss rfl rfl ?_
      refine mV rfl ?_
      refine nS ?_
      exact rR hres rfl rfl rfl

theorem eq_nil38 (ad : Option Addr) (ox oy : Operand) : ∃ b, binF Tryz.prog .eql 38 ox oy (.sc (.slice ad 0 0)) nilS = some (vb b) := by
  cases ad with
  | none => exact ⟨true, by kernel_rfl⟩
  | some a => exact ⟨false, by cases a; kernel_rfl⟩
theorem eq_fs38 (tg : Bool) (es : List PV) (ox oy : Operand) : binF Tryz.prog .eql 38 ox oy (.fs tg es) nilS = some (vb false) := rfl
theorem eq_any38 {l : List api_KeyMatch} {v : PV} (r : (tSl api_KeyMatch.t).R l v) (ox oy : Operand) : ∃ b, binF Tryz.prog .eql 38 ox oy v nilS = some (vb b) ∧ (b = true → l = []) := by
  obtain ⟨⟨es, he, hl⟩, hb⟩ := r
  rcases he with ⟨ad, rfl, rfl⟩ | ⟨tg, rfl⟩
  · obtain ⟨b, h⟩ := eq_nil38 ad ox oy
    refine ⟨b, h, fun _ => ?_⟩
    cases l with
    | nil => rfl
    | cons _ _ => simp [All2] at hl
  · exact ⟨false, eq_fs38 tg es ox oy, fun h => by cases h⟩
theorem f69_ok {x0 : List api_KeyMatch} {v0 : PV} (r0 : (tSl api_KeyMatch.t).R x0 v0) (hb : x0.length ≤ 2000000) : ∃ r, FnR Tryz.prog 69 [v0] r ∧ (tSl api_KeyMatch.t).R x0 r := by
  refine fnE text69 (by simp) ?_
  refine rc_seq (rc_region (rd_op (v := nilS) (ov_move rfl) (rd_nil (pn_seq (rc_seq (rc_seq (rc_region (rd_op (ov_move rfl) ?_))))))))
  obtain ⟨b, e1, e2⟩ := eq_any38 r0 (.tmp 3) (.const (.slice none 0 0))
  refine rd_op (ov_bin rfl rfl e1) (rd_nil (pn_seq (rc_cond rfl (fun hc => ?_) fun hc => ?_)))
  · have hx := e2 hc
    refine rc_seq (rc_region (rd_op (v := nilS) (ov_move rfl) (rd_nil (pn_seq ?_))))
    exact rc_retV (.tmp rfl .nil) (deep_closed rfl) (by rw [hx]; exact sl_nil)
  · refine rc_skip (pn_seq (rc_seq (rc_region ?_)))
    refine rd_op (v := .fs true []) (ov_bslice rfl all_nil) (rd_op (ov_move rfl) ?_)
    have MA := mem_acc (sz := 2) (es := []) (Mem.nil ⟨0, []⟩) 127 (.inr rfl) (by simp)
    obtain ⟨nw, sr, ar⟩ := src_of (t := api_KeyMatch.t) (h := ⟨0, []⟩) r0
    have ff : fits (([] : List PV).length + nw.length) 8 = true := by rw [All2.length_eq ar]; (try simp only [List.length_cons, List.length_nil]); exact fits_of (by omega) (by omega)
    refine rd_appW (k := 0) (es := ([] : List PV)) (news := nw) MA rfl rfl rfl rfl (.inl rfl) sr ff (fun a h n wr M => ?_)
    refine rd_op (ov_move rfl) (rd_nil (pn_seq ?_))
    obtain ⟨v1, d1, r1⟩ := own_sl (P := Tryz.prog) (k := 0) (t := api_KeyMatch.t) M rfl n ar (Nat.le_trans (show x0.length ≤ 4611686018427387904 by omega) (by decide))
    exact rc_retV (.tmp rfl .nil) d1 r1
theorem eq_nil33 (ad : Option Addr) (ox oy : Operand) : ∃ b, binF Tryz.prog .eql 33 ox oy (.sc (.slice ad 0 0)) nilS = some (vb b) := by
  cases ad with
  | none => exact ⟨true, by kernel_rfl⟩
  | some a => exact ⟨false, by cases a; kernel_rfl⟩
theorem eq_fs33 (tg : Bool) (es : List PV) (ox oy : Operand) : binF Tryz.prog .eql 33 ox oy (.fs tg es) nilS = some (vb false) := rfl
theorem eq_any33 {l : List (BitVec 32)} {v : PV} (r : (tSl tU32).R l v) (ox oy : Operand) : ∃ b, binF Tryz.prog .eql 33 ox oy v nilS = some (vb b) ∧ (b = true → l = []) := by
  obtain ⟨⟨es, he, hl⟩, hb⟩ := r
  rcases he with ⟨ad, rfl, rfl⟩ | ⟨tg, rfl⟩
  · obtain ⟨b, h⟩ := eq_nil33 ad ox oy
    refine ⟨b, h, fun _ => ?_⟩
    cases l with
    | nil => rfl
    | cons _ _ => simp [All2] at hl
  · exact ⟨false, eq_fs33 tg es ox oy, fun h => by cases h⟩
theorem f70_ok {x0 : List (BitVec 32)} {v0 : PV} (r0 : (tSl tU32).R x0 v0) (hb : x0.length ≤ 2000000) : ∃ r, FnR Tryz.prog 70 [v0] r ∧ (tSl tU32).R x0 r := by
  refine fnE text70 (by simp) ?_
  refine rc_seq (rc_region (rd_op (v := nilS) (ov_move rfl) (rd_nil (pn_seq (rc_seq (rc_seq (rc_region (rd_op (ov_move rfl) ?_))))))))
  obtain ⟨b, e1, e2⟩ := eq_any33 r0 (.tmp 3) (.const (.slice none 0 0))
  refine rd_op (ov_bin rfl rfl e1) (rd_nil (pn_seq (rc_cond rfl (fun hc => ?_) fun hc => ?_)))
  · have hx := e2 hc
    refine rc_seq (rc_region (rd_op (v := nilS) (ov_move rfl) (rd_nil (pn_seq ?_))))
    exact rc_retV (.tmp rfl .nil) (deep_closed rfl) (by rw [hx]; exact sl_nil)
  · refine rc_skip (pn_seq (rc_seq (rc_region ?_)))
    refine rd_op (v := .fs true []) (ov_bslice rfl all_nil) (rd_op (ov_move rfl) ?_)
    have MA := mem_acc (sz := 1) (es := []) (Mem.nil ⟨0, []⟩) 64 (.inr rfl) (by simp)
    obtain ⟨nw, sr, ar⟩ := src_of (t := tU32) (h := ⟨0, []⟩) r0
    have ff : fits (([] : List PV).length + nw.length) 4 = true := by rw [All2.length_eq ar]; (try simp only [List.length_cons, List.length_nil]); exact fits_of (by omega) (by omega)
    refine rd_appW (k := 0) (es := ([] : List PV)) (news := nw) MA rfl rfl rfl rfl (.inl rfl) sr ff (fun a h n wr M => ?_)
    refine rd_op (ov_move rfl) (rd_nil (pn_seq ?_))
    obtain ⟨v1, d1, r1⟩ := own_sl (P := Tryz.prog) (k := 0) (t := tU32) M rfl n ar (Nat.le_trans (show x0.length ≤ 4611686018427387904 by omega) (by decide))
    exact rc_retV (.tmp rfl .nil) d1 r1
theorem f35_ok {x0 : api_Row} {v0 : PV} (r0 : api_Row.t.R x0 v0) (hb : SR x0) : ∃ r, FnR Tryz.prog 35 [v0] r ∧ api_Row.t.R x0 r := by
  refine fnE text35 (by simp) ?_
  have a0 := r0
  obtain ⟨c1, c2, rfl, q1, q2⟩ := a0
  refine rc_seq (rc_region ?_)
  refine rd_boxO (Mem.nil _) rfl rfl (fun i1 w1 h1 M1 => ?_)
  refine rd_allocO (x := .agg [vi 0, nilS, vi 0, vi 0, nilS]) M1 rfl rfl (fun i2 w2 h2 M2 => rd_nil (pn_seq ?_))
  obtain ⟨d1, f1, s1⟩ := f69_ok q1 (by have := hb.1; omega)
  obtain ⟨d2, f2, s2⟩ := f70_ok q2 (by have := hb.2; omega)
  refine rc_seq (rc_region ?_)
  refine rd_op (ov_faddrO rfl) (rd_op (ov_faddrO rfl) (rd_op (ov_loadf (k := 1) M2 rfl rfl (mk1 (TR.agg _ q1))) ?_))
  refine cL f1 rfl rfl (clL_cons (TR.clo _ q1) clL_nil) (rd_op (ov_faddrO rfl) (rd_op (ov_faddrO rfl) ?_))
  refine rd_storeF (k := 1) (v := d1) M2 rfl rfl rfl (cells_one (TR.cnt _ s1) (TR.agg _ s1)) rfl (by simp) (fun h3 M3 => rd_nil (pn_seq ?_))
  replace M3 : Mem h3 [⟨.op i2 w2 0, 44, 5, [.agg [vi 0, nilS, vi 0, vi 0, nilS]]⟩, ⟨.op i1 w1 0, 44, 5, [.agg [vi x0.ID, d1, vi x0.Entry.Priority, vi x0.Entry.Call.Action, c2]]⟩] := M3
  refine rc_seq (rc_region ?_)
  refine rd_op (ov_faddrO rfl) (rd_op (ov_faddrO rfl) (rd_op (ov_faddrO rfl) (rd_op (ov_loadf (off := 4) (k := 1) M3 rfl rfl (mk1 (TR.agg _ q2))) ?_)))
  refine cL f2 rfl rfl (clL_cons (TR.clo _ q2) clL_nil) (rd_op (ov_faddrO rfl) (rd_op (ov_faddrO rfl) (rd_op (ov_faddrO rfl) ?_)))
  refine rd_storeF (off := 4) (k := 1) (v := d2) M3 rfl rfl rfl (cells_one (TR.cnt _ s2) (TR.agg _ s2)) rfl (by simp) (fun h4 M4 => rd_nil (pn_seq ?_))
  replace M4 : Mem h4 [⟨.op i2 w2 0, 44, 5, [.agg [vi 0, nilS, vi 0, vi 0, nilS]]⟩, ⟨.op i1 w1 0, 44, 5, [.agg [vi x0.ID, d1, vi x0.Entry.Priority, vi x0.Entry.Call.Action, d2]]⟩] := M4
  refine rc_seq (rc_region ?_)
  refine rd_op (ov_load0 (k := 1) M4 rfl rfl rfl) ?_
  have hR : api_Row.t.R x0 (.agg [vi x0.ID, d1, vi x0.Entry.Priority, vi x0.Entry.Call.Action, d2]) := ⟨d1, d2, rfl, s1, s2⟩
  refine rd_storeO (k := 0) (v := .agg [vi x0.ID, d1, vi x0.Entry.Priority, vi x0.Entry.Call.Action, d2]) M4 rfl rfl rfl rfl (fun h5 M5 => rd_nil (pn_seq ?_))
  exact rc_retV (.cell rfl (load_whole (k := 0) M5 rfl rfl) .nil) (deep_closed (TR.clo _ hR)) hR
theorem f29h {x0 : api_Row} {c0 : List (BitVec 32)} {v0 w0 : PV} (r0 : api_Row.t.R x0 v0) (a0 : (tSl tU32).R c0 w0) : FnR Tryz.prog 29 [v0, .fp w0] (vb (entry_Matches x0.Entry c0)) := by
  obtain ⟨r, h1, rfl⟩ : ∃ r, FnR Tryz.prog 29 [v0, .fp w0] r ∧ r = vb (entry_Matches x0.Entry c0) := by
    refine fnE text29 (by simp) ?_
    refine rc_seq (rc_region (rd_op (ov_box rfl (TR.cnt api_Row.t r0)) (rd_op (v := vb false) (ov_move rfl) (rd_nil (pn_seq ?_)))))
    obtain ⟨we, ge, re⟩ := api_Row.g_Entry r0
    refine rc_seq (rc_region (rd_op (ov_faddr rfl ge) (rd_op (ov_load rfl (TR.cnt _ re) (TR.agg _ re)) (rd_op (ov_load rfl (TR.cnt _ a0) (TR.agg _ a0)) ?_))))
    refine cL (f30_ok re a0) rfl rfl (clL_cons (TR.clo _ re) (clL_cons (TR.clo _ a0) clL_nil)) (rd_op (ov_move rfl) (rd_nil (pn_seq ?_)))
    exact rc_retV (.tmp rfl .nil) (deep_closed rfl) rfl
  exact h1
theorem fn29 {c0 : List (BitVec 32)} {w0 : PV} (a0 : (tSl tU32).R c0 w0) : (tFn Tryz.prog api_Row.t tB).R (fun r => entry_Matches r.Entry c0) (.fn (.func 29) [] [.fp w0]) :=
  ⟨29, [], _, rfl, rfl, by simp [closedL, closed, TR.clo _ a0], fun a va ra => ⟨_, f29h ra a0, rfl⟩⟩
theorem f33h {c0 : api_Row → Bool} {c1 : api_Program} {c2 : Int} {u w1 : PV} (ru : (tFn Tryz.prog api_Row.t tB).R c0 u) (a1 : api_Program.t.R c1 w1) {x0 c3 : api_Row} {v0 w3 : PV} (r0 : api_Row.t.R x0 v0) (a0 : api_Row.t.R c3 w3) : FnR Tryz.prog 33 [v0, .fp u, .fp w1, .fp (vi c2), .fp w3] (vb (c0 x0 && entry_Precedes c1 c2 x0 c3)) := by
  obtain ⟨r, h1, rfl⟩ : ∃ r, FnR Tryz.prog 33 [v0, .fp u, .fp w1, .fp (vi c2), .fp w3] r ∧ r = vb (c0 x0 && entry_Precedes c1 c2 x0 c3) := by
    refine fnE text33 (by simp) ?_
    refine rc_seq (rc_region (rd_op (ov_box rfl (TR.cnt api_Row.t r0)) (rd_op (v := vb false) (ov_move rfl) (rd_nil (pn_seq ?_)))))
    refine rc_seq (rc_region (rd_op (ov_load rfl (TR.cnt _ ru) (TR.agg _ ru)) (lD r0 rfl rfl rfl ?_)))
    obtain ⟨vr, hc, hvr⟩ := cv_tfn (E := (8, v0) :: (7, u) :: _) (f := .tmp 7) (args := [.tmp 8]) (hf := false) (h := ⟨0, []⟩) rfl ru rfl r0
    have hvr : vr = vb (c0 x0) := hvr
    subst hvr
    refine rd_call hc (rd_op (ov_move rfl) ?_)
    refine rd_cutn 6 (d := 16) (v := vb (c0 x0 && entry_Precedes c1 c2 x0 c3)) ?_ ?_
    · intro S Q r
      cases c0 x0
      · exact gN 5 rfl rfl rfl rfl rfl rfl
      · intro k
        refine rd_yes rfl rfl (ov_load rfl (TR.cnt _ a1) (TR.agg _ a1)) (rd_yes rfl rfl (ov_load rfl rfl rfl) (rd_yes rfl rfl (ov_load rfl (TR.cnt _ r0) (TR.agg _ r0)) (rd_yes rfl rfl (ov_load rfl (TR.cnt _ a0) (TR.agg _ a0)) ?_)))
        refine rd_ycall rfl rfl (cv_fn rfl rfl (clL_cons (TR.clo _ a1) (clL_cons rfl (clL_cons (TR.clo _ r0) (clL_cons (TR.clo _ a0) clL_nil)))) (f34_ok (x1 := c2) a1 r0 a0)) ?_
        exact gK rfl rfl rfl rfl rfl k
    refine rd_op (ov_move rfl) (rd_nil (pn_seq ?_))
    exact rc_retV (.tmp rfl .nil) (deep_closed rfl) rfl
  exact h1
theorem fn33 {c0 : api_Row → Bool} {c1 : api_Program} {c2 : Int} {u w1 : PV} (ru : (tFn Tryz.prog api_Row.t tB).R c0 u) (a0 : api_Program.t.R c1 w1) {c3 : api_Row} {w3 : PV} (a1 : api_Row.t.R c3 w3) : (tFn Tryz.prog api_Row.t tB).R (fun x => c0 x && entry_Precedes c1 c2 x c3) (.fn (.func 33) [] [.fp u, .fp w1, .fp (vi c2), .fp w3]) :=
  ⟨33, [], _, rfl, rfl, by simp [closedL, closed, TR.clo _ ru, TR.clo _ a0, TR.clo _ a1], fun a va ra => ⟨_, f33h ru a0 ra a1, rfl⟩⟩
theorem f32h {c0 : api_Row → Bool} {c1 : api_Program} {c2 : Int} {u w1 : PV} (ru : (tFn Tryz.prog api_Row.t tB).R c0 u) (a0 : api_Program.t.R c1 w1) {x0 : api_Row} {l : List api_Row} {v0 vl : PV} (r0 : api_Row.t.R x0 v0) (rl : (tSl api_Row.t).R l vl) : FnR Tryz.prog 32 [v0, .fp u, .fp vl, .fp w1, .fp (vi c2)] (vb (c0 x0 && !(lookup_find_api_Row l (fun x => c0 x && entry_Precedes c1 c2 x x0)).2)) := by
  obtain ⟨r, h1, rfl⟩ : ∃ r, FnR Tryz.prog 32 [v0, .fp u, .fp vl, .fp w1, .fp (vi c2)] r ∧ r = vb (c0 x0 && !(lookup_find_api_Row l (fun x => c0 x && entry_Precedes c1 c2 x x0)).2) := by
    refine fnE text32 (by simp) ?_
    refine rc_seq (rc_region (rd_op (ov_box rfl (TR.cnt api_Row.t r0)) (rd_op (v := vb false) (ov_move rfl) (rd_nil (pn_seq ?_)))))
    refine rc_seq (rc_seq (rc_region (rd_op (ov_load rfl (TR.cnt _ ru) (TR.agg _ ru)) (lD r0 rfl rfl rfl ?_))))
    obtain ⟨vr, hc, hvr⟩ := cv_tfn (E := (10, v0) :: (9, u) :: _) (f := .tmp 9) (args := [.tmp 10]) (hf := false) (h := ⟨0, []⟩) rfl ru rfl r0
    have hvr : vr = vb (c0 x0) := hvr
    subst hvr
    refine rd_call hc (rd_op (ov_not rfl) (rd_nil (pn_seq (rc_cond rfl (fun hn => ?_) fun hn => ?_))))
    · refine rc_seq (rc_region (rd_op (v := vb false) (ov_move rfl) (rd_nil (pn_seq ?_))))
      have hn : c0 x0 = false := by simpa using hn
      exact rc_retV (.tmp rfl .nil) (deep_closed rfl) (by rw [hn]; rfl)
    · have hn : c0 x0 = true := by simpa using hn
      obtain ⟨d, f1, s1⟩ := f31_ok rl (fn33 (c2 := c2) ru a0 r0)
      refine rc_skip (pn_seq (rc_seq (rc_region ?_)))
      refine rd_op (ov_load rfl (TR.cnt _ rl) (TR.agg _ rl)) (rd_op (v := .fn (.func 33) [] [.fp u, .fp w1, .fp (vi c2), .fp v0]) (ov_mkFunc rfl rfl) ?_)
      refine cL f1 rfl rfl (clL_cons (TR.clo _ rl) (clL_cons (by simp [closedL, closed, TR.clo _ ru, TR.clo _ a0, TR.clo _ r0]) clL_nil)) ?_
      refine rd_op (ov_move rfl) (rd_op (ov_extract rfl rfl) (rd_op (ov_extract rfl rfl) ?_))
      refine rd_allocO (x := .agg [vi 0, nilS, vi 0, vi 0, nilS]) (Mem.nil _) rfl rfl (fun i1 a1 h1 M1 => ?_)
      refine rd_storeO (k := 0) (v := d) M1 rfl rfl rfl (TR.cnt _ s1) (fun h2 M2 => rd_op (ov_move rfl) (rd_nil (pn_seq ?_)))
      refine rc_seq (rc_region (rd_op (ov_move rfl) (rd_op (ov_not rfl) (rd_op (ov_move rfl) (rd_nil (pn_seq ?_))))))
      exact rc_retV (.tmp rfl .nil) (deep_closed rfl) (by rw [hn]; rfl)
  exact h1
theorem fn32 {c0 : api_Row → Bool} {c1 : api_Program} {c2 : Int} {u w1 : PV} (ru : (tFn Tryz.prog api_Row.t tB).R c0 u) (a0 : api_Program.t.R c1 w1) {l : List api_Row} {vl : PV} (rl : (tSl api_Row.t).R l vl) : (tFn Tryz.prog api_Row.t tB).R (fun r => c0 r && !(lookup_find_api_Row l (fun x => c0 x && entry_Precedes c1 c2 x r)).2) (.fn (.func 32) [] [.fp u, .fp vl, .fp w1, .fp (vi c2)]) :=
  ⟨32, [], _, rfl, rfl, by simp [closedL, closed, TR.clo _ ru, TR.clo _ a0, TR.clo _ rl], fun a va ra => ⟨_, f32h ru a0 ra rl, rfl⟩⟩
theorem find_in {l : List api_Row} {p : api_Row → Bool} (H : ∀ r ∈ l, SR r) : SR (lookup_find_api_Row l p).1 := by
  have z : SR ({ ID := 0, Entry := ({ Keys := ([] : List api_KeyMatch), Priority := 0, Call := ({ Action := 0, Args := ([] : List (BitVec 32)) } : api_ActionCall) } : api_Entry) } : api_Row) := ⟨by simp, by simp⟩
  have key : ∀ (m : Nat) (i : Int) (z0 : api_Row) (K0 : api_Row → api_Row × Bool), (∀ y, SR (K0 y).1) → m = Int.toNat ((l.length : Int) - i) → 0 ≤ i → SR (lookup_find_api_Row_L1 l p K0 m i z0).1 := by
    intro m
    induction m with
    | zero => intro i z0 K0 hK hm h0; exact hK _
    | succ m ih =>
      intro i z0 K0 hK hm h0
      rw [lookup_find_api_Row_L1]
      split
      · show SR (ix l i)
        rw [ix_lt h0 (by omega)]
        exact H _ (List.getElem_mem _)
      · exact ih _ _ _ hK (by omega) (by omega)
  exact key _ 0 _ _ (fun _ => z) rfl (by omega)
theorem f12_ok {x0 : api_Program} {x1 : Int} {x2 : List api_Row} {x3 : List (BitVec 32)} {v0 v2 v3 : PV} (r0 : api_Program.t.R x0 v0) (r2 : (tSl api_Row.t).R x2 v2) (r3 : (tSl tU32).R x3 v3) (hb : ∀ r ∈ x2, SR r) : ∃ c0, FnR Tryz.prog 12 [v0, vi x1, v2, v3] (.tup [c0, vb (lookup_Best x0 x1 x2 x3).2]) ∧ api_Row.t.R (lookup_Best x0 x1 x2 x3).1 c0 := by
  obtain ⟨r, h1, c0, rfl, hr⟩ : ∃ r, FnR Tryz.prog 12 [v0, vi x1, v2, v3] r ∧ ∃ c0, r = .tup [c0, vb (lookup_Best x0 x1 x2 x3).2] ∧ api_Row.t.R (lookup_Best x0 x1 x2 x3).1 c0 := by
    refine fnE text12 (by simp) ?_
    refine rc_seq (rc_region (rd_op (ov_box rfl (TR.cnt api_Program.t r0)) (rd_op (ov_box rfl rfl) (rd_op (ov_box rfl (TR.cnt _ r2)) (rd_op (ov_box rfl (TR.cnt _ r3)) ?_)))))
    refine rd_allocO (x := .agg [vi 0, nilS, vi 0, vi 0, nilS]) (Mem.nil _) rfl rfl (fun i8 w8 h8 M8 => rd_op (v := vb false) (ov_move rfl) (rd_nil (pn_seq ?_)))
    refine rc_seq (rc_seq (rc_region (rd_op (ov_load rfl rfl rfl) (rd_op (v := vb (decide (x1 < 0))) (ov_bin rfl rfl i_lss) (rd_op (ov_move rfl) ?_)))))
    refine rd_cutn 6 (d := 21) (v := vb (decide (x1 < 0) || decide ((x0.Tables.length : Int) ≤ x1))) ?_ ?_
    · intro S Q r
      cases decide (x1 < 0)
      · intro k
        obtain ⟨wt, gt, rt⟩ := api_Program.g_Tables r0
        refine rd_yes rfl rfl (ov_load rfl rfl rfl) (rd_yes rfl rfl (ov_faddr rfl gt) (rd_yes rfl rfl (ov_load rfl (TR.cnt _ rt) (TR.agg _ rt)) (rd_yes rfl rfl (ov_bi rfl (sl_len rt Tryz.underlying26 _)) (rd_yes rfl rfl (ov_bin rfl rfl i_geq) ?_))))
        exact gK rfl rfl rfl rfl rfl k
      · exact gN 5 rfl rfl rfl rfl rfl rfl
    refine rd_nil (pn_seq (rc_cond rfl (fun hc => ?_) fun hc => ?_))
    · have hs : lookup_Best x0 x1 x2 x3 = (({ ID := 0, Entry := ({ Keys := ([] : List api_KeyMatch), Priority := 0, Call := ({ Action := 0, Args := ([] : List (BitVec 32)) } : api_ActionCall) } : api_Entry) } : api_Row), false) := by unfold lookup_Best; rw [if_pos hc]
      rw [hs]
      refine rc_seq (rc_region (rd_op (v := .agg [vi 0, nilS, vi 0, vi 0, nilS]) (ov_build (cs := [vi 0, nilS, vi 0, vi 0, nilS]) rfl rfl) ?_))
      refine rd_storeO (k := 0) (v := .agg [vi 0, nilS, vi 0, vi 0, nilS]) M8 rfl rfl rfl rfl (fun h9 M9 => rd_op (v := vb false) (ov_move rfl) (rd_nil (pn_seq ?_)))
      exact rc_retV (.cell rfl (load_whole (k := 0) M9 rfl rfl) (.tmp rfl .nil)) (deep_closed rfl) ⟨_, rfl, nilS, nilS, rfl, sl_nil, sl_nil⟩
    · have hs : lookup_Best x0 x1 x2 x3 = lookup_find_api_Row x2 (fun r => entry_Matches r.Entry x3 && !(lookup_find_api_Row x2 (fun x => entry_Matches x.Entry x3 && entry_Precedes x0 x1 x r)).2) := by unfold lookup_Best; rw [if_neg (by rw [hc]; simp)]
      rw [hs]
      have ru := fn29 r3
      have hcl := TR.clo _ ru
      obtain ⟨d, f1, s1⟩ := f31_ok r2 (fn32 (c2 := x1) ru r0 r2)
      refine rc_skip (pn_seq (rc_seq (rc_region (rd_op (v := .fn (.func 29) [] [.fp v3]) (ov_mkFunc rfl rfl) ?_))))
      refine rd_allocO (x := .sc .nilFunc) M8 rfl rfl (fun i9 w9 h9 M9 => ?_)
      refine rd_storeO (k := 0) (v := .fn (.func 29) [] [.fp v3]) M9 rfl rfl rfl rfl (fun a6 a3 => rd_nil (pn_seq ?_))
      refine rc_seq (rc_regionS ?_)
      refine rs_freezeP (k := 0) (E' := [(10, .fp (.fn (.func 29) [] [.fp v3])), (9, vb false), (8, .op i8 w8 0), (6, .fp v2), (5, .fp (vi x1)), (4, .fp v0)]) a3 rfl (frz_turn rfl (frz_keep rfl (frz_keep rfl (frz_keep rfl (frz_keep rfl (frz_keep rfl frz_nil)))))) (fun a4 a0 => ?_)
      replace a0 : Mem a4 [⟨.op i8 w8 0, 44, 5, [.agg [vi 0, nilS, vi 0, vi 0, nilS]]⟩] := a0
      refine rs_step (rd_op (ov_load rfl (TR.cnt _ r2) (TR.agg _ r2)) (rs_back (rs_step (rd_op (v := .fn (.func 32) [] [.fp (.fn (.func 29) [] [.fp v3]), .fp v2, .fp v0, .fp (vi x1)]) (ov_mkFunc rfl rfl) (rs_back ?_)))))
      refine rs_step (cL f1 rfl rfl (clL_cons (TR.clo _ r2) (clL_cons (by simp [closedL, closed, TR.clo _ r0, TR.clo _ r2, TR.clo _ r3]) clL_nil)) (rs_back ?_))
      refine rs_step (rd_op (ov_move rfl) (rs_back (rs_step (rd_op (ov_extract rfl rfl) (rs_back (rs_step (rd_op (ov_extract rfl rfl) (rs_back ?_))))))))
      refine rs_step (rd_allocO (x := .agg [vi 0, nilS, vi 0, vi 0, nilS]) a0 rfl rfl (fun b1 a8 a9 a5 => rs_back ?_))
      refine rs_step (rd_storeO (k := 0) (v := d) a5 rfl rfl rfl (TR.cnt _ s1) (fun a7 a1 => rs_back (rs_step (rd_op (ov_move rfl) (rs_back (rs_nil (pn_seq ?_)))))))
      obtain ⟨d2, f2, s2⟩ := f35_ok s1 (find_in hb)
      refine rc_seq (rc_region (rd_op (ov_load0 (k := 0) a1 rfl rfl (TR.agg _ s1)) ?_))
      refine cL f2 rfl rfl (clL_cons (TR.clo _ s1) clL_nil) (rd_op (ov_move rfl) ?_)
      refine rd_storeO (k := 1) (v := d2) a1 rfl rfl rfl (TR.cnt _ s2) (fun b0 a2 => rd_op (ov_move rfl) (rd_nil (pn_seq ?_)))
      exact rc_retV (.cell rfl (load_whole (k := 1) a2 rfl (TR.agg _ s2)) (.tmp rfl .nil)) (deep_closed (show closed (.tup _) = true from clL_cons (TR.clo _ s2) (clL_cons rfl clL_nil))) ⟨_, rfl, s2⟩
  exact ⟨c0, h1, hr⟩

def RF36 (res : Bool) (r : PV) : Prop := r = vb res
theorem ref23_Matches_L1_ok {S : List Fr} {res : Bool} {x0 : api_Entry} {x1 : List (BitVec 32)} {v0 v1 : PV} (r0 : api_Entry.t.R x0 v0) (r1 : (tSl tU32).R x1 v1) (a3 : (!decide ((x0.Keys.length : Int) = (x1.length : Int))) = false) {K0 : Unit → Bool}
    (b6 : K0 () = res → PX Tryz.prog 0 S (QR Tryz.prog [(4, none)] (RF36 res)) [] ⟨0, []⟩) :
    ∀ {m : Nat} {a0 : Int} (b1 : m = Int.toNat ((x1.length : Int) - a0)) (a2 : 0 ≤ a0), ref23_Matches_L1 x0 x1 K0 m a0 = res → RC Tryz.prog (.loop ac36_L1) S (QR Tryz.prog [(4, none)] (RF36 res)) [(5, vi a0), (2, .fp v0), (1, v1)] ⟨0, []⟩ := by
  have a1 := a3
  try simp only [qa, qaD] at a1
  intro m
  induction m with
  | zero =>
    intro a0 b1 a2 hres
    rw [ref23_Matches_L1] at hres
    refine rc_loop ?_
    refine rc_seq ?_
    refine sR ?_
    refine mV rfl ?_
    refine mV rfl ?_
    refine rd_op (ov_bi rfl (sl_len r1 Tryz.underlying33 _)) ?_
    refine bN i_lss rfl rfl ?_
    refine nS ?_
    refine rc_cond rfl ?_ ?_ <;> intro c <;> try simp only [qa, qaD] at c
    · omega
    refine rc_exit ?_
    refine px_seq ?_
    refine px_again ?_
    exact wP (b6  hres) rfl
  | succ m ih =>
    intro a0 b1 a2 hres
    rw [ref23_Matches_L1] at hres
    refine rc_loop ?_
    refine rc_seq ?_
    refine sR ?_
    refine mV rfl ?_
    refine mV rfl ?_
    refine rd_op (ov_bi rfl (sl_len r1 Tryz.underlying33 _)) ?_
    refine bN i_lss rfl rfl ?_
    refine nS ?_
    refine rc_cond rfl ?_ ?_ <;> intro c <;> try simp only [qa, qaD] at c
    rotate_left
    · omega
    refine rc_skip ?_
    refine pn_seq ?_
    refine rc_seq ?_
    refine rc_block ?_
    refine sR ?_
    refine mV rfl ?_
    refine mV rfl ?_
    refine rd_op (ov_iaddr rfl rfl (slU32 r1 (by first | omega | (have hk := em_len (by assumption) (by assumption); omega)) (by first | omega | (have hk := em_len (by assumption) (by assumption); omega)))) ?_
    refine lR rfl rfl rfl ?_
    obtain ⟨b2, a9, a4⟩ := api_Entry.g_Keys r0
    refine fA rfl a9 ?_
    refine lD a4 rfl rfl rfl ?_
    refine mV rfl ?_
    obtain ⟨b4, a8, a6⟩ := sl_idx (i := a0) a4 (by first | omega | (have hk := em_len (by assumption) (by assumption); omega)) (by first | omega | (have hk := em_len (by assumption) (by assumption); omega))
    refine rd_op (ov_iaddr rfl rfl a8) ?_
    refine fL rfl (api_KeyMatch.g_Value a6) rfl rfl ?_
    refine rd_op (ov_bin (a := vu32 (ix x1 a0)) (b := vu32 ((ix x0.Keys a0).Value)) rfl rfl w_xor) ?_
    refine gL (api_Entry.g_Keys r0) rfl rfl rfl fun b5 a5 => ?_
    refine mV rfl ?_
    obtain ⟨b3, b0, a7⟩ := sl_idx (i := a0) a5 (by first | omega | (have hk := em_len (by assumption) (by assumption); omega)) (by first | omega | (have hk := em_len (by assumption) (by assumption); omega))
    refine rd_op (ov_iaddr rfl rfl b0) ?_
    refine fL rfl (api_KeyMatch.g_Mask a7) rfl rfl ?_
    refine rd_op (ov_bin (a := vu32 ((ix x1 a0) ^^^ ((ix x0.Keys a0).Value))) (b := vu32 ((ix x0.Keys a0).Mask)) rfl rfl w_and) ?_
    refine rd_op (ov_bin (a := vu32 (((ix x1 a0) ^^^ ((ix x0.Keys a0).Value)) &&& ((ix x0.Keys a0).Mask))) (b := vu32 0#32) rfl rfl w_neq) ?_
    refine nS ?_
    refine rc_br hres rfl ?_ ?_ <;> clear hres <;> intro c hres <;> try simp only [qa, qaD] at c
    · refine sR ?_
      refine mB rfl ?_
      refine nS ?_
      exact rR hres rfl rfl rfl
    · refine rc_skip ?_
      refine pn_blk ?_
      refine pn_seq ?_
      refine rc_region ?_
      refine mV rfl ?_
      refine bN i_add rfl rfl ?_
      refine mV rfl ?_
      refine rd_nil ?_
      refine pn_again ?_
      have hbd := sl_bound r1
      have hinc : wr (a0 + 1) = a0 + 1 := wr_of (by omega) (by omega)
      erw [hinc]
      exact wC (ih   (by omega) (by omega) hres) rfl

theorem f36_ok {x0 : api_Entry} {x1 : List (BitVec 32)} {v0 v1 : PV} (r0 : api_Entry.t.R x0 v0) (r1 : (tSl tU32).R x1 v1) : FnR Tryz.prog 36 [v0, v1] (vb (ref23_Matches x0 x1)) := by
  refine fnS (R := RF36) text36 (fun _ h => h) rfl fun res hres => ?_
  unfold ref23_Matches at hres
  refine sR ?_
  refine rd_op (ov_box rfl (TR.cnt api_Entry.t r0)) ?_
  refine mB rfl ?_
  refine nS ?_
  refine rc_seq ?_
  refine sR ?_
  obtain ⟨a4, a3, a2⟩ := api_Entry.g_Keys r0
  refine fA rfl a3 ?_
  refine lD a2 rfl rfl rfl ?_
  refine rd_op (ov_bi rfl (sl_len a2 Tryz.underlying38 _)) ?_
  refine mV rfl ?_
  refine rd_op (ov_bi rfl (sl_len r1 Tryz.underlying33 _)) ?_
  refine bN i_neq rfl rfl ?_
  refine nS ?_
  refine rc_br hres rfl ?_ ?_ <;> clear hres <;> intro a0 hres <;> have a1 := a0 <;> try simp only [qa, qaD] at a1
  · refine sR ?_
    refine mB rfl ?_
    refine nS ?_
    exact rR hres rfl rfl rfl
  · refine rc_skip ?_
    refine pn_seq ?_
    refine rc_seq ?_
    refine sR ?_
    refine mI rfl ?_
    refine nS ?_
    refine rc_block ?_
    refine wC (ref23_Matches_L1_ok r0 r1 a0 ?_  rfl (by omega) hres) rfl
    · intro  hres
      refine px_blk ?_
      refine pn_seq ?_
      refine sR ?_
      refine mB rfl ?_
      refine nS ?_
      exact rR hres rfl rfl rfl

def RF108 (res : Int) (r : PV) : Prop := r = vi res
theorem ref01_OnesCount_L1_ok {S : List Fr} {res : Int} {K0 : Int → Int}
    (a5 : ∀ {a2 : Int}, K0 a2 = res → PX Tryz.prog 0 S (QR Tryz.prog [(2, none)] (RF108 res)) [(3, vi a2)] ⟨0, []⟩) :
    ∀ {m : Nat} {a1 : BitVec 32} {a2 a0 : Int} (a4 : m = Int.toNat (32 - a0)) (a3 : 0 ≤ a0), ref01_OnesCount_L1 K0 m a1 a2 a0 = res → RC Tryz.prog (.loop ac108_L1) S (QR Tryz.prog [(2, none)] (RF108 res)) [(4, vi a0), (3, vi a2), (0, vu32 a1)] ⟨0, []⟩ := by
  intro m
  induction m with
  | zero =>
    intro a1 a2 a0 a4 a3 hres
    rw [ref01_OnesCount_L1] at hres
    refine rc_loop ?_
    refine rc_seq ?_
    refine sR ?_
    refine mV rfl ?_
    refine bN i_lss rfl rfl ?_
    refine nS ?_
    refine rc_cond rfl ?_ ?_ <;> intro c <;> try simp only [qa, qaD] at c
    · omega
    refine rc_exit ?_
    refine px_seq ?_
    refine px_again ?_
    exact wP (a5  hres) rfl
  | succ m ih =>
    intro a1 a2 a0 a4 a3 hres
    rw [ref01_OnesCount_L1] at hres
    refine rc_loop ?_
    refine rc_seq ?_
    refine sR ?_
    refine mV rfl ?_
    refine bN i_lss rfl rfl ?_
    refine nS ?_
    refine rc_cond rfl ?_ ?_ <;> intro c <;> try simp only [qa, qaD] at c
    rotate_left
    · omega
    refine rc_skip ?_
    refine pn_seq ?_
    refine rc_seq ?_
    refine rc_block ?_
    refine sR ?_
    refine mV rfl ?_
    refine mV rfl ?_
    refine rd_op (ov_bin (a := vu32 a1) (b := vu32 2#32) rfl rfl (w_rem (by decide))) ?_
    refine rd_op (ov_conv (a := vu32 (a1 % 2#32)) rfl (c_wi Tryz.underlying64 Tryz.underlying3)) ?_
    refine bN i_add rfl rfl ?_
    refine mV rfl ?_
    refine nS ?_
    refine rc_region ?_
    refine mV rfl ?_
    refine rd_op (ov_bin (a := vu32 a1) (b := vu32 2#32) rfl rfl (w_quo (by decide))) ?_
    refine mV rfl ?_
    refine rd_nil ?_
    refine pn_blk ?_
    refine pn_seq ?_
    refine rc_region ?_
    refine mV rfl ?_
    refine bN i_add rfl rfl ?_
    refine mV rfl ?_
    refine rd_nil ?_
    refine pn_again ?_
    have hinc : wr (a0 + 1) = a0 + 1 := wr_of (by omega) (by omega)
    erw [hinc]
    exact wC (ih   (by omega) (by omega) hres) rfl

theorem f108_ok {x0 : BitVec 32} : FnR Tryz.prog 108 [vu32 x0] (vi (ref01_OnesCount x0)) := by
  refine fnS (R := RF108) text108 (fun _ h => h) rfl fun res hres => ?_
  unfold ref01_OnesCount at hres
  refine sR ?_
  refine mI rfl ?_
  refine nR ?_
  refine mI rfl ?_
  refine nS ?_
  refine rc_seq ?_
  refine sR ?_
  refine mI rfl ?_
  refine nS ?_
  refine rc_block ?_
  refine wC (ref01_OnesCount_L1_ok  ?_  rfl (by omega) hres) rfl
  · intro a0 hres
    refine px_blk ?_
    refine pn_seq ?_
    refine sR ?_
    refine mV rfl ?_
    refine mV rfl ?_
    refine nS ?_
    exact rR hres rfl rfl rfl

def RF71 (res : Int) (r : PV) : Prop := r = vi res
theorem ref23_prefixBits_L1_ok {S : List Fr} {res : Int} {x0 : api_Program} {x1 : Int} {x2 : api_Entry} {v0 v2 : PV} (r0 : api_Program.t.R x0 v0) (r2 : api_Entry.t.R x2 v2) (a5 : ((decide (x1 < 0)) || (decide ((x0.Tables.length : Int) ≤ x1))) = false) {K0 : Unit → Int}
    (e1 : K0 () = res → PX Tryz.prog 0 S (QR Tryz.prog [(6, none)] (RF71 res)) [] ⟨0, []⟩) :
    ∀ {m : Nat} {a0 : Int} (c7 : m = Int.toNat ((((ix x0.Tables x1).Keys).length : Int) - a0)) (a3 : 0 ≤ a0), ref23_prefixBits_L1 x0 x1 x2 K0 m a0 = res → RC Tryz.prog (.loop ac71_L1) S (QR Tryz.prog [(6, none)] (RF71 res)) [(7, vi a0), (5, .fp v2), (3, .fp v0), (1, vi x1)] ⟨0, []⟩ := by
  have a1 := a5
  try simp only [qa, qaD] at a1
  intro m
  induction m with
  | zero =>
    intro a0 c7 a3 hres
    rw [ref23_prefixBits_L1] at hres
    refine rc_loop ?_
    refine rc_seq ?_
    refine sR ?_
    refine mV rfl ?_
    refine gL (api_Program.g_Tables r0) rfl rfl rfl fun e0 a9 => ?_
    refine mV rfl ?_
    obtain ⟨d0, c0, b7⟩ := sl_idx (i := x1) a9 (by first | omega | (have hk := em_len (by assumption) (by assumption); omega)) (by first | omega | (have hk := em_len (by assumption) (by assumption); omega))
    refine rd_op (ov_iaddr rfl rfl c0) ?_
    obtain ⟨d7, b8, a2⟩ := api_Table.g_Keys b7
    refine fA rfl b8 ?_
    refine lD a2 rfl rfl rfl ?_
    refine rd_op (ov_bi rfl (sl_len a2 Tryz.underlying85 _)) ?_
    refine bN i_lss rfl rfl ?_
    refine nS ?_
    refine rc_cond rfl ?_ ?_ <;> intro c <;> try simp only [qa, qaD] at c
    · omega
    refine rc_exit ?_
    refine px_seq ?_
    refine px_again ?_
    exact wP (e1  hres) rfl
  | succ m ih =>
    intro a0 c7 a3 hres
    rw [ref23_prefixBits_L1] at hres
    refine rc_loop ?_
    refine rc_seq ?_
    refine sR ?_
    refine mV rfl ?_
    obtain ⟨d6, c6, a4⟩ := api_Program.g_Tables r0
    refine fA rfl c6 ?_
    refine lD a4 rfl rfl rfl ?_
    refine mV rfl ?_
    obtain ⟨d4, b6, b2⟩ := sl_idx (i := x1) a4 (by first | omega | (have hk := em_len (by assumption) (by assumption); omega)) (by first | omega | (have hk := em_len (by assumption) (by assumption); omega))
    refine rd_op (ov_iaddr rfl rfl b6) ?_
    refine gL (api_Table.g_Keys b2) rfl rfl rfl fun c8 a6 => ?_
    refine rd_op (ov_bi rfl (sl_len a6 Tryz.underlying85 _)) ?_
    refine bN i_lss rfl rfl ?_
    refine nS ?_
    refine rc_cond rfl ?_ ?_ <;> intro c <;> try simp only [qa, qaD] at c
    rotate_left
    · omega
    refine rc_skip ?_
    refine pn_seq ?_
    refine rc_seq ?_
    refine rc_block ?_
    refine sR ?_
    refine gL (api_Program.g_Tables r0) rfl rfl rfl fun d1 b4 => ?_
    refine mV rfl ?_
    obtain ⟨c9, c4, b0⟩ := sl_idx (i := x1) b4 (by first | omega | (have hk := em_len (by assumption) (by assumption); omega)) (by first | omega | (have hk := em_len (by assumption) (by assumption); omega))
    refine rd_op (ov_iaddr rfl rfl c4) ?_
    refine gL (api_Table.g_Keys b0) rfl rfl rfl fun d8 b1 => ?_
    refine mV rfl ?_
    obtain ⟨d9, c1, b9⟩ := sl_idx (i := a0) b1 (by first | omega | (have hk := em_len (by assumption) (by assumption); omega)) (by first | omega | (have hk := em_len (by assumption) (by assumption); omega))
    refine rd_op (ov_iaddr rfl rfl c1) ?_
    refine fL rfl (api_TableKey.g_Kind b9) rfl rfl ?_
    refine bN i_eql rfl rfl ?_
    refine nS ?_
    refine rc_br hres rfl ?_ ?_ <;> clear hres <;> intro c hres <;> try simp only [qa, qaD] at c
    · refine rc_seq ?_
      refine sR ?_
      refine mV rfl ?_
      refine gL (api_Entry.g_Keys r2) rfl rfl rfl fun d5 c3 => ?_
      refine rd_op (ov_bi rfl (sl_len c3 Tryz.underlying38 _)) ?_
      refine bN i_geq rfl rfl ?_
      refine nS ?_
      refine rc_br hres rfl ?_ ?_ <;> clear hres <;> intro c hres <;> try simp only [qa, qaD] at c
      · refine sR ?_
        refine mI rfl ?_
        refine nS ?_
        exact rR hres rfl rfl rfl
      · refine rc_skip ?_
        refine pn_seq ?_
        refine sR ?_
        refine gL (api_Entry.g_Keys r2) rfl rfl rfl fun d2 b3 => ?_
        refine mV rfl ?_
        obtain ⟨e2, c5, b5⟩ := sl_idx (i := a0) b3 (by first | omega | (have hk := em_len (by assumption) (by assumption); omega)) (by first | omega | (have hk := em_len (by assumption) (by assumption); omega))
        refine rd_op (ov_iaddr rfl rfl c5) ?_
        refine fL rfl (api_KeyMatch.g_Mask b5) rfl rfl ?_
        obtain ⟨d3, a8, hres⟩ := let_ex hres
        have a7 := f108_ok (x0 := (ix x2.Keys a0).Mask)  
        rw [a8] at a7
        refine cL a7 rfl rfl (clL_cons rfl clL_nil) ?_
        refine mV rfl ?_
        refine nS ?_
        exact rR hres rfl rfl rfl
    · refine rc_skip ?_
      refine pn_blk ?_
      refine pn_seq ?_
      refine rc_region ?_
      refine mV rfl ?_
      refine bN i_add rfl rfl ?_
      refine mV rfl ?_
      refine rd_nil ?_
      refine pn_again ?_
      have hbd := sl_bound a6
      have hinc : wr (a0 + 1) = a0 + 1 := wr_of (by omega) (by omega)
      erw [hinc]
      exact wC (ih   (by omega) (by omega) hres) rfl

theorem f71_ok {x0 : api_Program} {x1 : Int} {x2 : api_Entry} {v0 v2 : PV} (r0 : api_Program.t.R x0 v0) (r2 : api_Entry.t.R x2 v2) : FnR Tryz.prog 71 [v0, vi x1, v2] (vi (ref23_prefixBits x0 x1 x2)) := by
  refine fnS (R := RF71) text71 (fun _ h => h) rfl fun res hres => ?_
  unfold ref23_prefixBits at hres
  refine sR ?_
  refine rd_op (ov_box rfl (TR.cnt api_Program.t r0)) ?_
  refine rd_op (ov_box rfl (TR.cnt api_Entry.t r2)) ?_
  refine mI rfl ?_
  refine nS ?_
  refine rc_seq ?_
  refine sR ?_
  refine mV rfl ?_
  refine bN i_lss rfl rfl ?_
  refine mV rfl ?_
  refine rd_cutn 6 (d := 16) (v := vb ((decide (x1 < 0)) || (decide ((x0.Tables.length : Int) ≤ x1)))) ?_ ?_
  · intro S Q r
    cases a4 : (decide (x1 < 0))
    · intro k
      have a1 := a4
      try simp only [qa, qaD] at a1
      refine rd_yes rfl rfl (ov_move rfl) ?_
      obtain ⟨a6, a5, a3⟩ := api_Program.g_Tables r0
      refine rd_yes rfl rfl (ov_faddr rfl a5) ?_
      refine rd_yes rfl rfl (ov_load rfl (TR.cnt (tSl api_Table.t) a3) (TR.agg (tSl api_Table.t) a3)) ?_
      refine rd_yes rfl rfl (ov_bi rfl (sl_len a3 Tryz.underlying26 _)) ?_
      refine rd_yes rfl rfl (ov_bin rfl rfl i_geq) ?_
      exact gK rfl rfl rfl rfl rfl k
    · exact gN 5 rfl rfl rfl rfl rfl rfl
  refine nS ?_
  refine rc_br hres rfl ?_ ?_ <;> clear hres <;> intro a0 hres <;> have a2 := a0 <;> try simp only [qa, qaD] at a2
  · refine sR ?_
    refine mI rfl ?_
    refine nS ?_
    exact rR hres rfl rfl rfl
  · refine rc_skip ?_
    refine pn_seq ?_
    refine rc_seq ?_
    refine sR ?_
    refine mI rfl ?_
    refine nS ?_
    refine rc_block ?_
    refine wC (ref23_prefixBits_L1_ok r0 r2 a0 ?_  rfl (by omega) hres) rfl
    · intro  hres
      refine px_blk ?_
      refine pn_seq ?_
      refine sR ?_
      refine mI rfl ?_
      refine nS ?_
      exact rR hres rfl rfl rfl

def RF37 (res : Bool) (r : PV) : Prop := r = vb res
theorem f37_ok {x0 : api_Program} {x1 : Int} {x2 : api_Row} {x3 : api_Row} {v0 v2 v3 : PV} (r0 : api_Program.t.R x0 v0) (r2 : api_Row.t.R x2 v2) (r3 : api_Row.t.R x3 v3) : FnR Tryz.prog 37 [v0, vi x1, v2, v3] (vb (ref23_Precedes x0 x1 x2 x3)) := by
  refine fnS (R := RF37) text37 (fun _ h => h) rfl fun res hres => ?_
  unfold ref23_Precedes at hres
  refine sR ?_
  refine rd_op (ov_box rfl (TR.cnt api_Program.t r0)) ?_
  refine rd_op (ov_box rfl (TR.cnt api_Row.t r2)) ?_
  refine rd_op (ov_box rfl (TR.cnt api_Row.t r3)) ?_
  refine mB rfl ?_
  refine nR ?_
  refine lD r0 rfl rfl rfl ?_
  refine mV rfl ?_
  refine gL (api_Row.g_Entry r2) rfl rfl rfl fun b5 a5 => ?_
  obtain ⟨c1, a3, hres⟩ := let_ex hres
  have a0 := f71_ok (x1 := x1) r0 a5 
  rw [a3] at a0
  refine cL a0 rfl rfl (clL_cons (TR.clo api_Program.t r0) (clL_cons rfl (clL_cons (TR.clo api_Entry.t a5) clL_nil))) ?_
  refine lD r0 rfl rfl rfl ?_
  refine mV rfl ?_
  refine gL (api_Row.g_Entry r3) rfl rfl rfl fun c0 a4 => ?_
  obtain ⟨b4, a2, hres⟩ := let_ex hres
  have a1 := f71_ok (x1 := x1) r0 a4 
  rw [a2] at a1
  refine cL a1 rfl rfl (clL_cons (TR.clo api_Program.t r0) (clL_cons rfl (clL_cons (TR.clo api_Entry.t a4) clL_nil))) ?_
  refine mV rfl ?_
  refine mV rfl ?_
  refine nS ?_
  refine rc_seq ?_
  refine rc_block ?_
  refine sR ?_
  obtain ⟨b6, b3, b0⟩ := api_Row.g_Entry r2
  refine fA rfl b3 ?_
  refine fL rfl (api_Entry.g_Priority b0) rfl rfl ?_
  obtain ⟨b9, b2, a7⟩ := api_Row.g_Entry r3
  refine fA rfl b2 ?_
  refine fL rfl (api_Entry.g_Priority a7) rfl rfl ?_
  refine bN i_neq rfl rfl ?_
  refine mV rfl ?_
  refine nS ?_
  refine rc_br hres rfl ?_ ?_ <;> clear hres <;> intro c hres <;> try simp only [qa, qaD] at c
  · refine sR ?_
    obtain ⟨b8, b1, a8⟩ := api_Row.g_Entry r2
    refine fA rfl b1 ?_
    refine fL rfl (api_Entry.g_Priority a8) rfl rfl ?_
    obtain ⟨b7, a9, a6⟩ := api_Row.g_Entry r3
    refine fA rfl a9 ?_
    refine fL rfl (api_Entry.g_Priority a6) rfl rfl ?_
    refine bN i_gtr rfl rfl ?_
    refine mV rfl ?_
    refine nS ?_
    exact rR hres rfl rfl rfl
  · refine sR ?_
    refine mV rfl ?_
    refine mV rfl ?_
    refine bN i_neq rfl rfl ?_
    refine mV rfl ?_
    refine nS ?_
    refine rc_br hres rfl ?_ ?_ <;> clear hres <;> intro c hres <;> try simp only [qa, qaD] at c
    · refine sR ?_
      refine mV rfl ?_
      refine mV rfl ?_
      refine bN i_gtr rfl rfl ?_
      refine mV rfl ?_
      refine nS ?_
      exact rR hres rfl rfl rfl
    · refine rc_skip ?_
      refine pn_blk ?_
      refine pn_seq ?_
      refine sR ?_
      refine fL rfl (api_Row.g_ID r2) rfl rfl ?_
      refine fL rfl (api_Row.g_ID r3) rfl rfl ?_
      refine bN i_lss rfl rfl ?_
      refine mV rfl ?_
      refine nS ?_
      exact rR hres rfl rfl rfl

def RF13 (res : api_Row × Bool) (r : PV) : Prop := ∃ c0, r = .tup [c0, vb res.2] ∧ api_Row.t.R res.1 c0
theorem ref24_Best_L1_ok {S : List Fr} {res : api_Row × Bool} {x0 : api_Program} {x1 : Int} {x2 : List api_Row} {x3 : List (BitVec 32)} {v0 v2 v3 : PV} {a8 a6 a7 a5 : Nat} (r0 : api_Program.t.R x0 v0) (r2 : (tSl api_Row.t).R x2 v2) (r3 : (tSl tU32).R x3 v3) {K0 : Bool → api_Row → (api_Row × Bool)}
    (e2 : ∀ {a4 : Bool} {a1 : api_Row} {a3 : PV} (a2 : api_Row.t.R a1 a3) {h : Heap} (M0 : Mem h [⟨.op a7 a5 0, 44, 5, [a3]⟩, ⟨.op a8 a6 0, 44, 5, [.agg [vi 0, nilS, vi 0, vi 0, nilS]]⟩]), K0 a4 a1 = res → PX Tryz.prog 0 S (QR Tryz.prog [(8, some (5, true)), (9, none)] (RF13 res)) [(8, .op a8 a6 0), (10, .op a7 a5 0), (11, vb a4)] h) :
    ∀ {m : Nat} {a4 : Bool} {a0 : Int} {a1 : api_Row} {a3 : PV} (a2 : api_Row.t.R a1 a3) (e1 : m = Int.toNat ((x2.length : Int) - a0)) (c1 : 0 ≤ a0) {h : Heap} (M0 : Mem h [⟨.op a7 a5 0, 44, 5, [a3]⟩, ⟨.op a8 a6 0, 44, 5, [.agg [vi 0, nilS, vi 0, vi 0, nilS]]⟩]), ref24_Best_L1 x0 x1 x2 x3 K0 m a4 a0 a1 = res → RC Tryz.prog (.loop ac13_L1) S (QR Tryz.prog [(8, some (5, true)), (9, none)] (RF13 res)) [(12, vi a0), (11, vb a4), (10, .op a7 a5 0), (8, .op a8 a6 0), (4, .fp v0), (3, v3), (2, v2), (1, vi x1)] h := by
  intro m
  induction m with
  | zero =>
    intro a4 a0 a1 a3 a2 e1 c1 h M0 hres
    rw [ref24_Best_L1] at hres
    refine rc_loop ?_
    refine rc_seq ?_
    refine sR ?_
    refine mV rfl ?_
    refine mV rfl ?_
    refine rd_op (ov_bi rfl (sl_len r2 Tryz.underlying32 _)) ?_
    refine bN i_lss rfl rfl ?_
    refine mV rfl ?_
    refine rd_cutn 3 (d := 21) (v := vb ((decide (a0 < (x2.length : Int))) && (decide (0 ≤ x1)))) ?_ ?_
    · intro S Q r
      cases c8 : (decide (a0 < (x2.length : Int)))
      · exact gN 2 rfl rfl rfl rfl rfl rfl
      · intro k
        have b6 := c8
        try simp only [qa, qaD] at b6
        refine rd_yes rfl rfl (ov_move rfl) ?_
        refine rd_yes rfl rfl (ov_bin rfl rfl i_geq) ?_
        exact gK rfl rfl rfl rfl rfl k
    refine mV rfl ?_
    refine rd_cutn 6 (d := 28) (v := vb (((decide (a0 < (x2.length : Int))) && (decide (0 ≤ x1))) && (decide (x1 < (x0.Tables.length : Int))))) ?_ ?_
    · intro S Q r
      cases d1 : ((decide (a0 < (x2.length : Int))) && (decide (0 ≤ x1)))
      · exact gN 5 rfl rfl rfl rfl rfl rfl
      · intro k
        have b9 := d1
        try simp only [qa, qaD] at b9
        refine rd_yes rfl rfl (ov_move rfl) ?_
        obtain ⟨e4, d4, b3⟩ := api_Program.g_Tables r0
        refine rd_yes rfl rfl (ov_faddr rfl d4) ?_
        refine rd_yes rfl rfl (ov_load rfl (TR.cnt (tSl api_Table.t) b3) (TR.agg (tSl api_Table.t) b3)) ?_
        refine rd_yes rfl rfl (ov_bi rfl (sl_len b3 Tryz.underlying26 _)) ?_
        refine rd_yes rfl rfl (ov_bin rfl rfl i_lss) ?_
        exact gK rfl rfl rfl rfl rfl k
    refine nS ?_
    refine rc_cond rfl ?_ ?_ <;> intro c <;> try simp only [qa, qaD] at c
    · omega
    refine rc_exit ?_
    refine px_seq ?_
    refine px_again ?_
    exact wP (e2 a2 (Mem.sub M0 (.cons_cons _ (.cons_cons _ .slnil))) hres) rfl
  | succ m ih =>
    intro a4 a0 a1 a3 a2 e1 c1 h M0 hres
    rw [ref24_Best_L1] at hres
    refine rc_loop ?_
    refine rc_seq ?_
    refine sR ?_
    refine mV rfl ?_
    refine mV rfl ?_
    refine rd_op (ov_bi rfl (sl_len r2 Tryz.underlying32 _)) ?_
    refine bN i_lss rfl rfl ?_
    refine mV rfl ?_
    refine rd_cutn 3 (d := 21) (v := vb ((decide (a0 < (x2.length : Int))) && (decide (0 ≤ x1)))) ?_ ?_
    · intro S Q r
      cases c3 : (decide (a0 < (x2.length : Int)))
      · exact gN 2 rfl rfl rfl rfl rfl rfl
      · intro k
        have b0 := c3
        try simp only [qa, qaD] at b0
        refine rd_yes rfl rfl (ov_move rfl) ?_
        refine rd_yes rfl rfl (ov_bin rfl rfl i_geq) ?_
        exact gK rfl rfl rfl rfl rfl k
    refine mV rfl ?_
    refine rd_cutn 6 (d := 28) (v := vb (((decide (a0 < (x2.length : Int))) && (decide (0 ≤ x1))) && (decide (x1 < (x0.Tables.length : Int))))) ?_ ?_
    · intro S Q r
      cases c4 : ((decide (a0 < (x2.length : Int))) && (decide (0 ≤ x1)))
      · exact gN 5 rfl rfl rfl rfl rfl rfl
      · intro k
        have b2 := c4
        try simp only [qa, qaD] at b2
        refine rd_yes rfl rfl (ov_move rfl) ?_
        obtain ⟨e3, d9, b1⟩ := api_Program.g_Tables r0
        refine rd_yes rfl rfl (ov_faddr rfl d9) ?_
        refine rd_yes rfl rfl (ov_load rfl (TR.cnt (tSl api_Table.t) b1) (TR.agg (tSl api_Table.t) b1)) ?_
        refine rd_yes rfl rfl (ov_bi rfl (sl_len b1 Tryz.underlying26 _)) ?_
        refine rd_yes rfl rfl (ov_bin rfl rfl i_lss) ?_
        exact gK rfl rfl rfl rfl rfl k
    refine nS ?_
    refine rc_br hres rfl ?_ ?_ <;> clear hres <;> intro c hres <;> try simp only [qa, qaD] at c
    · refine rc_skip ?_
      refine pn_seq ?_
      refine rc_seq ?_
      refine rc_block ?_
      refine sR ?_
      refine mV rfl ?_
      refine mV rfl ?_
      obtain ⟨e5, d7, d6⟩ := sl_idx (i := a0) r2 (by first | omega | (have hk := em_len (by assumption) (by assumption); omega)) (by first | omega | (have hk := em_len (by assumption) (by assumption); omega))
      refine rd_op (ov_iaddr rfl rfl d7) ?_
      refine gL (api_Row.g_Entry d6) rfl rfl rfl fun e6 c6 => ?_
      refine mV rfl ?_
      obtain ⟨c7, d0, hres⟩ := let_ex hres
      have c9 := f36_ok  c6 r3 
      rw [d0] at c9
      refine cL c9 rfl rfl (clL_cons (TR.clo api_Entry.t c6) (clL_cons (TR.clo (tSl tU32) r3) clL_nil)) ?_
      refine mV rfl ?_
      refine rd_cutn 13 (d := 51) (v := vb (c7 && ((!a4) || (ref23_Precedes x0 x1 (ix x2 a0) a1)))) ?_ ?_
      · intro S Q r
        cases d2 : c7
        · exact gN 12 rfl rfl rfl rfl rfl rfl
        · intro k
          have b8 := d2
          try simp only [qa, qaD] at b8
          refine rd_yes rfl rfl (ov_move rfl) ?_
          refine rd_yes rfl rfl (ov_not rfl) ?_
          refine rd_yes rfl rfl (ov_move rfl) ?_
          refine rd_cutn 9 (d := 50) (v := vb ((!a4) || (ref23_Precedes x0 x1 (ix x2 a0) a1))) ?_ ?_
          · intro S Q r
            cases c0 : (!a4)
            · intro k
              have b7 := c0
              try simp only [qa, qaD] at b7
              refine rd_yes rfl rfl (ov_load rfl (TR.cnt api_Program.t r0) (TR.agg api_Program.t r0)) ?_
              refine rd_yes rfl rfl (ov_move rfl) ?_
              refine rd_yes rfl rfl (ov_move rfl) ?_
              refine rd_yes rfl rfl (ov_move rfl) ?_
              obtain ⟨e7, e0, a9⟩ := sl_idx (i := a0) r2 (by first | omega | (have hk := em_len (by assumption) (by assumption); omega)) (by first | omega | (have hk := em_len (by assumption) (by assumption); omega))
              refine rd_yes rfl rfl (ov_iaddr rfl rfl e0) ?_
              refine rd_yes rfl rfl (ov_load rfl (TR.cnt api_Row.t a9) (TR.agg api_Row.t a9)) ?_
              refine rd_yes rfl rfl (ov_load0 (k := 0) M0 rfl rfl (TR.agg api_Row.t a2)) ?_
              have d8 := f37_ok (x1 := x1) r0 a9 a2 
              refine rd_ycall rfl rfl (cv_fn rfl rfl (clL_cons (TR.clo api_Program.t r0) (clL_cons rfl (clL_cons (TR.clo api_Row.t a9) (clL_cons (TR.clo api_Row.t a2) clL_nil)))) d8) ?_
              refine rd_yes (v := vb (ref23_Precedes x0 x1 (ix x2 a0) a1)) rfl rfl (ov_pick rfl rfl rfl rfl) ?_
              exact wD k rfl
            · intro k
              refine rd_skip rfl rfl ?_
              refine rd_skip rfl rfl ?_
              refine rd_skip rfl rfl ?_
              refine rd_skip rfl rfl ?_
              refine rd_skip rfl rfl ?_
              refine rd_skip rfl rfl ?_
              refine rd_skip rfl rfl ?_
              refine rd_skip rfl rfl ?_
              refine rd_yes (v := vb true) rfl rfl (ov_pick rfl rfl rfl rfl) ?_
              exact wD k rfl
          exact gK rfl rfl rfl rfl rfl k
      refine nS ?_
      refine rc_br hres rfl ?_ ?_ <;> clear hres <;> intro c hres <;> try simp only [qa, qaD] at c
      · refine sR ?_
        refine mV rfl ?_
        refine mV rfl ?_
        obtain ⟨c5, d3, b5⟩ := sl_idx (i := a0) r2 (by first | omega | (have hk := em_len (by assumption) (by assumption); omega)) (by first | omega | (have hk := em_len (by assumption) (by assumption); omega))
        refine rd_op (ov_iaddr rfl rfl d3) ?_
        refine lD b5 rfl rfl rfl ?_
        refine rd_storeO (k := 0) (v := c5) M0 rfl rfl rfl (TR.cnt api_Row.t b5) (fun d5 b4 => ?_)
        replace b4 : Mem d5 [⟨.op a7 a5 0, 44, 5, [c5]⟩, ⟨.op a8 a6 0, 44, 5, [.agg [vi 0, nilS, vi 0, vi 0, nilS]]⟩] := b4
        refine nS ?_
        refine rc_region ?_
        refine mB rfl ?_
        refine rd_nil ?_
        refine pn_blk ?_
        refine pn_seq ?_
        refine rc_region ?_
        refine mV rfl ?_
        refine bN i_add rfl rfl ?_
        refine mV rfl ?_
        refine rd_nil ?_
        refine pn_again ?_
        have hbd := sl_bound r2
        have hinc : wr (a0 + 1) = a0 + 1 := wr_of (by omega) (by omega)
        erw [hinc]
        exact wC (ih  b5 (by omega) (by omega) (Mem.sub b4 (.cons_cons _ (.cons_cons _ .slnil))) hres) rfl
      · refine rc_skip ?_
        refine pn_blk ?_
        refine pn_seq ?_
        refine rc_region ?_
        refine mV rfl ?_
        refine bN i_add rfl rfl ?_
        refine mV rfl ?_
        refine rd_nil ?_
        refine pn_again ?_
        have hbd := sl_bound r2
        have hinc : wr (a0 + 1) = a0 + 1 := wr_of (by omega) (by omega)
        erw [hinc]
        exact wC (ih  a2 (by omega) (by omega) (Mem.sub M0 (.cons_cons _ (.cons_cons _ .slnil))) hres) rfl
    · refine rc_exit ?_
      refine px_seq ?_
      refine px_again ?_
      exact wP (e2 a2 (Mem.sub M0 (.cons_cons _ (.cons_cons _ .slnil))) hres) rfl

theorem f13_ok {x0 : api_Program} {x1 : Int} {x2 : List api_Row} {x3 : List (BitVec 32)} {v0 v2 v3 : PV} (r0 : api_Program.t.R x0 v0) (r2 : (tSl api_Row.t).R x2 v2) (r3 : (tSl tU32).R x3 v3) : ∃ c0, FnR Tryz.prog 13 [v0, vi x1, v2, v3] (.tup [c0, vb ((ref24_Best x0 x1 x2 x3).2)]) ∧ api_Row.t.R (ref24_Best x0 x1 x2 x3).1 c0 := by
  obtain ⟨res, hres⟩ : ∃ res, ref24_Best x0 x1 x2 x3 = res := ⟨_, rfl⟩
  suffices H : RC Tryz.prog ac13 [] (QR Tryz.prog [(8, some (5, true)), (9, none)] (RF13 res)) (argE 0 [v0, vi x1, v2, v3]) ⟨0, []⟩ by
    rw [hres]
    obtain ⟨r, h1, c0, rfl, b9⟩ := fnE text13 (by simp) H
    exact ⟨c0, h1, b9⟩
  unfold ref24_Best at hres
  refine sR ?_
  refine rd_op (ov_box rfl (TR.cnt api_Program.t r0)) ?_
  refine rd_allocO (x := .agg [vi 0, nilS, vi 0, vi 0, nilS]) (Mem.nil ⟨0, []⟩) rfl rfl (fun a9 a6 b7 b1 => ?_)
  refine mB rfl ?_
  refine nR ?_
  refine rd_op (v := .agg [vi 0, nilS, vi 0, vi 0, nilS]) (ov_build (cs := [vi 0, nilS, vi 0, vi 0, nilS]) rfl rfl) ?_
  refine rd_allocO (x := .agg [vi 0, nilS, vi 0, vi 0, nilS]) b1 rfl rfl (fun a7 a5 b5 b2 => ?_)
  refine rd_storeO (k := 0) (v := .agg [vi 0, nilS, vi 0, vi 0, nilS]) b2 rfl rfl rfl rfl (fun b3 a3 => ?_)
  replace a3 : Mem b3 [⟨.op a7 a5 0, 44, 5, [.agg [vi 0, nilS, vi 0, vi 0, nilS]]⟩, ⟨.op a9 a6 0, 44, 5, [.agg [vi 0, nilS, vi 0, vi 0, nilS]]⟩] := a3
  refine nR ?_
  refine mB rfl ?_
  refine nS ?_
  refine rc_seq ?_
  refine sR ?_
  refine mI rfl ?_
  refine nS ?_
  refine rc_block ?_
  have b6 : api_Row.t.R ({ ID := 0, Entry := ({ Keys := ([] : List api_KeyMatch), Priority := 0, Call := ({ Action := 0, Args := ([] : List (BitVec 32)) } : api_ActionCall) } : api_Entry) } : api_Row) (.agg [vi 0, nilS, vi 0, vi 0, nilS]) := ⟨nilS, nilS, rfl, sl_nil, sl_nil⟩
  refine wC (ref24_Best_L1_ok r0 r2 r3 ?_  (show api_Row.t.R ({ ID := 0, Entry := ({ Keys := ([] : List api_KeyMatch), Priority := 0, Call := ({ Action := 0, Args := ([] : List (BitVec 32)) } : api_ActionCall) } : api_Entry) } : api_Row) (.agg [vi 0, nilS, vi 0, vi 0, nilS]) from ⟨nilS, nilS, rfl, sl_nil, sl_nil⟩) rfl (by omega) (Mem.sub a3 (.cons_cons _ (.cons_cons _ .slnil))) hres) rfl
  · intro b0 a4 a1 a0 b8 a8 hres
    refine px_blk ?_
    refine pn_seq ?_
    refine sR ?_
    refine rd_op (ov_load0 (k := 0) a8 rfl rfl (TR.agg api_Row.t a0)) ?_
    refine mV rfl ?_
    refine rd_storeO (k := 1) (v := a1) a8 rfl rfl rfl (TR.cnt api_Row.t a0) (fun b4 a2 => ?_)
    replace a2 : Mem b4 [⟨.op a7 a5 0, 44, 5, [a1]⟩, ⟨.op a9 a6 0, 44, 5, [a1]⟩] := a2
    refine mV rfl ?_
    refine nS ?_
    subst hres
    exact rc_retV (.cell rfl (load_whole (k := 1) a2 rfl (TR.agg api_Row.t a0)) (.tmp rfl .nil)) (deep_closed (show closed (.tup _) = true from (clL_cons (TR.clo api_Row.t a0) (clL_cons rfl clL_nil)))) ⟨a1, rfl, a0⟩

end Go.Proofs.YthdnpgpnodgicaaGreat
