/-
  The code of each function does what its plain program says.
-/
import Derived.Test.YtpdimhpjehfjeaaKDef
import Derived.Test.YtpdimhpjehfjeaaL3Text
import Derived.Test.YtpdimhpjehfjeaaPbV
import Derived.Test.YtpdimhpjehfjeaaKCo
import Derived.Test.YtpdimhpjehfjeaaKLy
import Derived.Test.YtpdimhpjehfjeaaKGbOrSpDsUsOk
import Derived.Test.YtpdimhpjehfjeaaKIn
import Derived.Test.YtpdimhpjehfjeaaKUuRsLvTwLc
set_option linter.unusedVariables false
set_option linter.unusedSimpArgs false
set_option maxRecDepth 100000
namespace Go.Proofs.Ytpdimhpjehfjeaa
open Go Go.Pb Go.RowKit
def RF33 (res : Bool) (r : PV) : Prop := r = vb res
theorem f33_ok {x0 : List (List Int)} {x1 : Int} {v0 : PV} (r0 : (tSl (tSl tI)).R x0 v0) : FnR Try.prog 33 [v0, vi x1] (vb (digraph_node x0 x1)) := by
  refine fnS (R := RF33) text33 (fun _ h => h) rfl fun res hres => ?_
  unfold digraph_node at hres
  refine sR ?_
  refine mB rfl ?_
  refine nR ?_
  refine mV rfl ?_
  refine bN i_geq rfl rfl ?_
  refine mV rfl ?_
  refine rd_cutn 5 (d := 12) (v := vb ((decide (0 ≤ x1)) && (decide (x1 < (x0.length : Int))))) ?_ ?_
  · intro S Q r
    cases a1 : (decide (0 ≤ x1))
    · exact gN 4 rfl rfl rfl rfl rfl rfl
    · intro k
      have a0 := a1
      try simp only [qa, qaD] at a0
      refine rd_yes rfl rfl (ov_move rfl) ?_
      refine rd_yes rfl rfl (ov_move rfl) ?_
      refine rd_yes rfl rfl (ov_bi rfl (sl_len r0 Try.underlying22 _)) ?_
      refine rd_yes rfl rfl (ov_bin rfl rfl i_lss) ?_
      exact gK rfl rfl rfl rfl rfl k
  refine mV rfl ?_
  refine nS ?_
  exact rR hres rfl rfl rfl

def RF10 (res : Int) (r : PV) : Prop := r = vi res
theorem digraph_Check_L2_ok {S : List Fr} {res : Int} {x0 : List (List Int)} {a1 : Int} {v0 a4 : PV} (r0 : (tSl (tSl tI)).R x0 v0) (a7 : (decide (4096 < (x0.length : Int))) = false) (b3 : 0 ≤ a1) (b0 : (decide (a1 < (x0.length : Int))) = true) (a5 : (tSl tI).R (ix x0 a1) a4) {K2 : Unit → Int}
    (b2 : K2 () = res → PX Try.prog 2 S (QR Try.prog [(2, none)] (RF10 res)) [(0, v0), (10, v0), (11, vi (x0.length : Int)), (12, vi a1)] ⟨0, []⟩) :
    ∀ {m : Nat} {a0 : Int} (b1 : m = Int.toNat (((ix x0 a1).length : Int) - a0)) (a9 : 0 ≤ a0), digraph_Check_L2 x0 a1 K2 m a0 = res → RC Try.prog (.loop ac10_L2) S (QR Try.prog [(2, none)] (RF10 res)) [(18, vi a0), (17, vi ((ix x0 a1).length : Int)), (16, a4), (12, vi a1), (11, vi (x0.length : Int)), (10, v0), (0, v0)] ⟨0, []⟩ := by
  have a2 := a7
  try simp only [qa, qaD] at a2
  have a3 := b0
  try simp only [qa, qaD] at a3
  intro m
  induction m with
  | zero =>
    intro a0 b1 a9 hres
    rw [digraph_Check_L2] at hres
    refine rc_loop ?_
    refine sR ?_
    refine bN i_lss rfl rfl ?_
    refine nS ?_
    refine rc_seq ?_
    refine rc_cond rfl ?_ ?_ <;> intro c <;> try simp only [qa, qaD] at c
    · omega
    refine rc_exit ?_
    refine px_seq ?_
    refine px_again ?_
    exact wP (b2  hres) rfl
  | succ m ih =>
    intro a0 b1 a9 hres
    rw [digraph_Check_L2] at hres
    refine rc_loop ?_
    refine sR ?_
    refine bN i_lss rfl rfl ?_
    refine nS ?_
    refine rc_seq ?_
    refine rc_cond rfl ?_ ?_ <;> intro c <;> try simp only [qa, qaD] at c
    rotate_left
    · omega
    refine rc_skip ?_
    refine pn_seq ?_
    refine rc_seq ?_
    refine rc_block ?_
    refine sR ?_
    refine rd_op (ov_iaddr rfl rfl (slI a5 (by omega) (by omega))) ?_
    refine lR rfl rfl rfl ?_
    refine mV rfl ?_
    refine nR ?_
    refine mV rfl ?_
    refine mV rfl ?_
    obtain ⟨b4, a8, hres⟩ := let_ex hres
    have a6 := f33_ok (x1 := (ix (ix x0 a1) a0)) r0 
    rw [a8] at a6
    refine cL a6 rfl rfl (clL_cons (TR.clo (tSl (tSl tI)) r0) (clL_cons rfl clL_nil)) ?_
    refine rd_op (ov_not rfl) ?_
    refine nS ?_
    refine rc_br hres rfl ?_ ?_ <;> clear hres <;> intro c hres <;> try simp only [qa, qaD] at c
    · refine sR ?_
      refine mI rfl ?_
      refine nS ?_
      exact rR hres rfl rfl rfl
    · refine rc_skip ?_
      refine pn_blk ?_
      refine pn_seq ?_
      refine rc_region ?_
      refine bN i_add rfl rfl ?_
      refine mV rfl ?_
      refine rd_nil ?_
      refine pn_again ?_
      have hbd := sl_bound a5
      have hinc : wr (a0 + 1) = a0 + 1 := wr_of (by omega) (by omega)
      erw [hinc]
      exact wC (ih   (by omega) (by omega) hres) rfl

theorem digraph_Check_L1_ok {S : List Fr} {res : Int} {x0 : List (List Int)} {v0 : PV} (r0 : (tSl (tSl tI)).R x0 v0) (a2 : (decide (4096 < (x0.length : Int))) = false) {K0 : Unit → Int}
    (b0 : K0 () = res → PX Try.prog 0 S (QR Try.prog [(2, none)] (RF10 res)) [] ⟨0, []⟩) :
    ∀ {m : Nat} {a0 : Int} (a8 : m = Int.toNat ((x0.length : Int) - a0)) (a5 : 0 ≤ a0), digraph_Check_L1 x0 K0 m a0 = res → RC Try.prog (.loop ac10_L1) S (QR Try.prog [(2, none)] (RF10 res)) [(12, vi a0), (11, vi (x0.length : Int)), (10, v0), (0, v0)] ⟨0, []⟩ := by
  have a4 := a2
  try simp only [qa, qaD] at a4
  intro m
  induction m with
  | zero =>
    intro a0 a8 a5 hres
    rw [digraph_Check_L1] at hres
    refine rc_loop ?_
    refine sR ?_
    refine bN i_lss rfl rfl ?_
    refine nS ?_
    refine rc_seq ?_
    refine rc_cond rfl ?_ ?_ <;> intro c <;> try simp only [qa, qaD] at c
    · omega
    refine rc_exit ?_
    refine px_seq ?_
    refine px_again ?_
    exact wP (b0  hres) rfl
  | succ m ih =>
    intro a0 a8 a5 hres
    rw [digraph_Check_L1] at hres
    refine rc_loop ?_
    refine sR ?_
    refine bN i_lss rfl rfl ?_
    refine nS ?_
    refine rc_seq ?_
    refine rc_cond rfl (fun a1 => ?_) (fun a1 => ?_)
    · have hgo := hres
      have a6 := a1
      try simp only [qa, qaD] at a6
      refine rc_skip ?_
      refine pn_seq ?_
      refine rc_seq ?_
      refine rc_block ?_
      refine sR ?_
      obtain ⟨a9, a7, a3⟩ := sl_idx (i := a0) r0 (by omega) (by omega)
      refine rd_op (ov_iaddr rfl rfl a7) ?_
      refine lD a3 rfl rfl rfl ?_
      refine mV rfl ?_
      refine nR ?_
      refine mV rfl ?_
      refine rd_op (ov_bi rfl (sl_len a3 Try.underlying31 _)) ?_
      refine mI rfl ?_
      refine nS ?_
      refine rc_block ?_
      refine wC (digraph_Check_L2_ok r0 a2 a5 a1 a3 ?_  rfl (by omega) hres) rfl
      · intro  hres
        refine px_blk ?_
        refine pn_blk ?_
        refine pn_seq ?_
        refine rc_region ?_
        refine bN i_add rfl rfl ?_
        refine mV rfl ?_
        refine rd_nil ?_
        refine pn_again ?_
        have hbd := sl_bound r0
        have hinc : wr (a0 + 1) = a0 + 1 := wr_of (by omega) (by omega)
        erw [hinc]
        exact wC (ih   (by omega) (by omega) hres) rfl
    · exfalso
      try simp only [qa, qaD] at a1
      omega

theorem f10_ok {x0 : List (List Int)} {v0 : PV} (r0 : (tSl (tSl tI)).R x0 v0) : FnR Try.prog 10 [v0] (vi (digraph_Check x0)) := by
  refine fnS (R := RF10) text10 (fun _ h => h) rfl fun res hres => ?_
  unfold digraph_Check at hres
  refine sR ?_
  refine mI rfl ?_
  refine nS ?_
  refine rc_seq ?_
  refine sR ?_
  refine mV rfl ?_
  refine rd_op (ov_bi rfl (sl_len r0 Try.underlying22 _)) ?_
  refine bN i_gtr rfl rfl ?_
  refine nS ?_
  refine rc_br hres rfl ?_ ?_ <;> clear hres <;> intro a0 hres <;> have a1 := a0 <;> try simp only [qa, qaD] at a1
  · refine sR ?_
    refine mI rfl ?_
    refine nS ?_
    exact rR hres rfl rfl rfl
  · refine rc_skip ?_
    refine pn_seq ?_
    refine rc_seq ?_
    refine sR ?_
    refine mV rfl ?_
    refine rd_op (ov_bi rfl (sl_len r0 Try.underlying22 _)) ?_
    refine mI rfl ?_
    refine nS ?_
    refine rc_block ?_
    refine wC (digraph_Check_L1_ok r0 a0 ?_  rfl (by omega) hres) rfl
    · intro  hres
      refine px_blk ?_
      refine pn_seq ?_
      refine sR ?_
      refine mI rfl ?_
      refine nS ?_
      exact rR hres rfl rfl rfl

def RF11 (res : Int) (r : PV) : Prop := r = vi res
theorem ref06_Check_L2_ok {S : List Fr} {res : Int} {x0 : List (List Int)} {a0 : Int} {v0 : PV} (r0 : (tSl (tSl tI)).R x0 v0) (b0 : (decide (4096 < (x0.length : Int))) = false) (c2 : 0 ≤ a0) (b2 : (decide (a0 < (x0.length : Int))) = true) {K2 : Unit → Int}
    (b9 : K2 () = res → PX Try.prog 2 S (QR Try.prog [(2, none)] (RF11 res)) [(0, v0), (3, vi a0)] ⟨0, []⟩) :
    ∀ {m : Nat} {a1 : Int} (b7 : m = Int.toNat (((ix x0 a0).length : Int) - a1)) (b1 : 0 ≤ a1), ref06_Check_L2 x0 a0 K2 m a1 = res → RC Try.prog (.loop ac11_L2) S (QR Try.prog [(2, none)] (RF11 res)) [(4, vi a1), (3, vi a0), (0, v0)] ⟨0, []⟩ := by
  have a3 := b0
  try simp only [qa, qaD] at a3
  have a5 := b2
  try simp only [qa, qaD] at a5
  intro m
  induction m with
  | zero =>
    intro a1 b7 b1 hres
    rw [ref06_Check_L2] at hres
    refine rc_loop ?_
    refine rc_seq ?_
    refine sR ?_
    refine mV rfl ?_
    refine mV rfl ?_
    refine mV rfl ?_
    obtain ⟨b8, b5, a8⟩ := sl_idx (i := a0) r0 (by omega) (by omega)
    refine rd_op (ov_iaddr rfl rfl b5) ?_
    refine lD a8 rfl rfl rfl ?_
    refine rd_op (ov_bi rfl (sl_len a8 Try.underlying31 _)) ?_
    refine bN i_lss rfl rfl ?_
    refine nS ?_
    refine rc_cond rfl ?_ ?_ <;> intro c <;> try simp only [qa, qaD] at c
    · omega
    refine rc_exit ?_
    refine px_seq ?_
    refine px_again ?_
    exact wP (b9  hres) rfl
  | succ m ih =>
    intro a1 b7 b1 hres
    rw [ref06_Check_L2] at hres
    refine rc_loop ?_
    refine rc_seq ?_
    refine sR ?_
    refine mV rfl ?_
    refine mV rfl ?_
    refine mV rfl ?_
    obtain ⟨c4, b4, a4⟩ := sl_idx (i := a0) r0 (by omega) (by omega)
    refine rd_op (ov_iaddr rfl rfl b4) ?_
    refine lD a4 rfl rfl rfl ?_
    refine rd_op (ov_bi rfl (sl_len a4 Try.underlying31 _)) ?_
    refine bN i_lss rfl rfl ?_
    refine nS ?_
    refine rc_cond rfl ?_ ?_ <;> intro c <;> try simp only [qa, qaD] at c
    rotate_left
    · omega
    refine rc_skip ?_
    refine pn_seq ?_
    refine rc_seq ?_
    refine rc_block ?_
    refine sR ?_
    refine mV rfl ?_
    refine mV rfl ?_
    obtain ⟨c5, b3, a9⟩ := sl_idx (i := a0) r0 (by omega) (by omega)
    refine rd_op (ov_iaddr rfl rfl b3) ?_
    refine lD a9 rfl rfl rfl ?_
    refine mV rfl ?_
    refine rd_op (ov_iaddr rfl rfl (slI a9 (by omega) (by omega))) ?_
    refine lR rfl rfl rfl ?_
    refine bN i_lss rfl rfl ?_
    refine mV rfl ?_
    refine rd_cutn 11 (d := 42) (v := vb ((decide ((ix (ix x0 a0) a1) < 0)) || (decide ((x0.length : Int) ≤ (ix (ix x0 a0) a1))))) ?_ ?_
    · intro S Q r
      cases a7 : (decide ((ix (ix x0 a0) a1) < 0))
      · intro k
        have a2 := a7
        try simp only [qa, qaD] at a2
        refine rd_yes rfl rfl (ov_move rfl) ?_
        refine rd_yes rfl rfl (ov_move rfl) ?_
        obtain ⟨c3, b6, a6⟩ := sl_idx (i := a0) r0 (by omega) (by omega)
        refine rd_yes rfl rfl (ov_iaddr rfl rfl b6) ?_
        refine rd_yes rfl rfl (ov_load rfl (TR.cnt (tSl tI) a6) (TR.agg (tSl tI) a6)) ?_
        refine rd_yes rfl rfl (ov_move rfl) ?_
        refine rd_yes rfl rfl (ov_iaddr rfl rfl (slI a6 (by omega) (by omega))) ?_
        refine rd_yes rfl rfl (ov_load rfl rfl rfl) ?_
        refine rd_yes rfl rfl (ov_move rfl) ?_
        refine rd_yes rfl rfl (ov_bi rfl (sl_len r0 Try.underlying22 _)) ?_
        refine rd_yes rfl rfl (ov_bin rfl rfl i_geq) ?_
        exact gK rfl rfl rfl rfl rfl k
      · exact gN 10 rfl rfl rfl rfl rfl rfl
    refine nS ?_
    refine rc_br hres rfl ?_ ?_ <;> clear hres <;> intro c hres <;> try simp only [qa, qaD] at c
    · refine sR ?_
      refine mI rfl ?_
      refine nS ?_
      exact rR hres rfl rfl rfl
    · refine rc_skip ?_
      refine pn_blk ?_
      refine pn_seq ?_
      refine rc_region ?_
      refine mV rfl ?_
      refine bN i_add rfl rfl ?_
      refine mV rfl ?_
      refine rd_nil ?_
      refine pn_again ?_
      have hbd := sl_bound a4
      have hinc : wr (a1 + 1) = a1 + 1 := wr_of (by omega) (by omega)
      erw [hinc]
      exact wC (ih   (by omega) (by omega) hres) rfl

theorem ref06_Check_L1_ok {S : List Fr} {res : Int} {x0 : List (List Int)} {v0 : PV} (r0 : (tSl (tSl tI)).R x0 v0) (a2 : (decide (4096 < (x0.length : Int))) = false) {K0 : Unit → Int}
    (a7 : K0 () = res → PX Try.prog 0 S (QR Try.prog [(2, none)] (RF11 res)) [] ⟨0, []⟩) :
    ∀ {m : Nat} {a1 : Int} (a6 : m = Int.toNat ((x0.length : Int) - a1)) (a4 : 0 ≤ a1), ref06_Check_L1 x0 K0 m a1 = res → RC Try.prog (.loop ac11_L1) S (QR Try.prog [(2, none)] (RF11 res)) [(3, vi a1), (0, v0)] ⟨0, []⟩ := by
  have a3 := a2
  try simp only [qa, qaD] at a3
  intro m
  induction m with
  | zero =>
    intro a1 a6 a4 hres
    rw [ref06_Check_L1] at hres
    refine rc_loop ?_
    refine rc_seq ?_
    refine sR ?_
    refine mV rfl ?_
    refine mV rfl ?_
    refine rd_op (ov_bi rfl (sl_len r0 Try.underlying22 _)) ?_
    refine bN i_lss rfl rfl ?_
    refine nS ?_
    refine rc_cond rfl ?_ ?_ <;> intro c <;> try simp only [qa, qaD] at c
    · omega
    refine rc_exit ?_
    refine px_seq ?_
    refine px_again ?_
    exact wP (a7  hres) rfl
  | succ m ih =>
    intro a1 a6 a4 hres
    rw [ref06_Check_L1] at hres
    refine rc_loop ?_
    refine rc_seq ?_
    refine sR ?_
    refine mV rfl ?_
    refine mV rfl ?_
    refine rd_op (ov_bi rfl (sl_len r0 Try.underlying22 _)) ?_
    refine bN i_lss rfl rfl ?_
    refine nS ?_
    refine rc_cond rfl (fun a0 => ?_) (fun a0 => ?_)
    · have hgo := hres
      have a5 := a0
      try simp only [qa, qaD] at a5
      refine rc_skip ?_
      refine pn_seq ?_
      refine rc_seq ?_
      refine rc_block ?_
      refine sR ?_
      refine mI rfl ?_
      refine nS ?_
      refine rc_block ?_
      refine wC (ref06_Check_L2_ok r0 a2 a4 a0 ?_  rfl (by omega) hres) rfl
      · intro  hres
        refine px_blk ?_
        refine pn_blk ?_
        refine pn_seq ?_
        refine rc_region ?_
        refine mV rfl ?_
        refine bN i_add rfl rfl ?_
        refine mV rfl ?_
        refine rd_nil ?_
        refine pn_again ?_
        have hbd := sl_bound r0
        have hinc : wr (a1 + 1) = a1 + 1 := wr_of (by omega) (by omega)
        erw [hinc]
        exact wC (ih   (by omega) (by omega) hres) rfl
    · exfalso
      try simp only [qa, qaD] at a0
      omega

theorem f11_ok {x0 : List (List Int)} {v0 : PV} (r0 : (tSl (tSl tI)).R x0 v0) : FnR Try.prog 11 [v0] (vi (ref06_Check x0)) := by
  refine fnS (R := RF11) text11 (fun _ h => h) rfl fun res hres => ?_
  unfold ref06_Check at hres
  refine sR ?_
  refine mI rfl ?_
  refine nS ?_
  refine rc_seq ?_
  refine sR ?_
  refine mV rfl ?_
  refine rd_op (ov_bi rfl (sl_len r0 Try.underlying22 _)) ?_
  refine bN i_gtr rfl rfl ?_
  refine nS ?_
  refine rc_br hres rfl ?_ ?_ <;> clear hres <;> intro a0 hres <;> have a1 := a0 <;> try simp only [qa, qaD] at a1
  · refine sR ?_
    refine mI rfl ?_
    refine nS ?_
    exact rR hres rfl rfl rfl
  · refine rc_skip ?_
    refine pn_seq ?_
    refine rc_seq ?_
    refine sR ?_
    refine mI rfl ?_
    refine nS ?_
    refine rc_block ?_
    refine wC (ref06_Check_L1_ok r0 a0 ?_  rfl (by omega) hres) rfl
    · intro  hres
      refine px_blk ?_
      refine pn_seq ?_
      refine sR ?_
      refine mI rfl ?_
      refine nS ?_
      exact rR hres rfl rfl rfl

def RF44 (a0 : PV) (R_ : List Ent) (res : List Int) (r : PV) (h : Heap) : Prop := ∃ es : List PV, Mem h (⟨a0, 3, 1, es⟩ :: R_) ∧ All2 tI.R res es ∧ res.length ≤ 4611686018427387904 ∧ Wri a0 es ∧ r = .tup []
theorem f44_ok {x0 : List Int} {a0 : PV} {a1 : List PV} {R_ : List Ent} {h_ : Heap} (q : All2 tI.R x0 a1) (ne : isL a0 = true) (hl : x0.length ≤ 4611686018427387904) (wi : Wri a0 a1) (M : Mem h_ (⟨a0, 3, 1, a1⟩ :: R_)) (hb : x0.length ≤ 1000000) : ∃ r a2, FnX Try.prog 44 [a0] h_ r a2 ∧ RF44 a0 R_ (slices_Sort__int_int_ x0) r a2 := by
  obtain ⟨r, h2, X, es', M2, q2, w2, hr⟩ := sort_int_X text44.enters Go.Proofs.Try.sortI_calls Go.Proofs.Try.sortI_none q ne hb wi M
  exact ⟨r, h2, X, es', M2, q2, by rw [slices_Sort__int_int_, List.length_mergeSort]; exact hl, w2, hr⟩

theorem f45_ok {x0 : List Int} {a0 : PV} {a1 : List PV} {R_ : List Ent} {h_ : Heap} (q : All2 tI.R x0 a1) (ne : isL a0 = true) (hl : x0.length ≤ 4611686018427387904) (wi : Wri a0 a1) (M : Mem h_ (⟨a0, 3, 1, a1⟩ :: R_)) : ∃ r a2, FnX Try.prog 45 [a0] h_ r a2 ∧ RF45 R_ (slices_Compact__int_int_ x0) r a2 := f45_cpt q ne hl wi M

def RF37 (res : (List (List Int))) (r : PV) : Prop := (tSl (tSl tI)).R res r
theorem digraph_clean_L2_ok {S : List Fr} {res : (List (List Int))} {x0 : List (List Int)} {a1 : Int} {b5 : List (List Int)} {v0 d6 : PV} {a9 a8 : Nat} (r0 : (tSl (tSl tI)).R x0 v0) (hs : Sm x0) (hn : x0.length ≤ 24) (f8 : (List.replicate x0.length ([] : List Int)).length = x0.length) (f6 : (List.replicate x0.length ([] : List Int)).length ≤ 4611686018427387904) (f0 : b5.length = x0.length) (f3 : b5.length ≤ 4611686018427387904) (g3 : 0 ≤ a1) (f5 : LB b5 (40 * a1)) (e8 : (decide (a1 < (x0.length : Int))) = true) (c7 : (tSl tI).R (ix x0 a1) d6) {K2 : (List (List Int)) → (List (List Int))}
    (g0 : ∀ {a0 : List (List Int)} {a2 : List PV} {a4 : List Ent} (a3 : Ns tI 3 a0 a2 a4) (a6 : a0.length = x0.length) (a7 : a0.length ≤ 4611686018427387904) (g4 : LB a0 (40 * a1 + 40)) {h : Heap} (M0 : Mem h (⟨.os a9 a8 0 x0.length, 31, 1, a2⟩ :: (a4 ++ []))), K2 a0 = res → PX Try.prog 2 S (QR Try.prog [(2, none)] (RF37 res)) [(0, v0), (3, .os a9 a8 0 x0.length), (4, vi a1), (11, v0), (12, vi (x0.length : Int)), (13, vi a1)] h) :
    ∀ {m : Nat} {a5 : Int} {a0 : List (List Int)} {a2 : List PV} {a4 : List Ent} (a3 : Ns tI 3 a0 a2 a4) (a6 : a0.length = x0.length) (a7 : a0.length ≤ 4611686018427387904) (f9 : m = Int.toNat (((ix x0 a1).length : Int) - a5)) (e0 : 0 ≤ a5) (b2 : LB a0 (40 * a1 + a5)) (b9 : a5 ≤ ((ix x0 a1).length : Int)) {h : Heap} (M0 : Mem h (⟨.os a9 a8 0 x0.length, 31, 1, a2⟩ :: (a4 ++ []))), digraph_clean_L2 x0 a1 K2 m a5 a0 = res → RC Try.prog (.loop ac37_L2) S (QR Try.prog [(2, none)] (RF37 res)) [(20, vi a5), (19, vi ((ix x0 a1).length : Int)), (18, d6), (13, vi a1), (12, vi (x0.length : Int)), (11, v0), (4, vi a1), (3, .os a9 a8 0 x0.length), (0, v0)] h := by
  have c3 := e8
  try simp only [qa, qaD] at c3
  intro m
  induction m with
  | zero =>
    intro a5 a0 a2 a4 a3 a6 a7 f9 e0 b2 b9 h M0 hres
    rw [digraph_clean_L2] at hres
    refine rc_loop ?_
    refine sR ?_
    refine bN i_lss rfl rfl ?_
    refine nS ?_
    refine rc_seq ?_
    refine rc_cond rfl ?_ ?_ <;> intro c <;> try simp only [qa, qaD] at c
    · omega
    refine rc_exit ?_
    refine px_seq ?_
    refine px_again ?_
    exact wP (g0 a3 a6 a7 (by (have hr := hs.r a1 (by omega) (by omega); exact LB.mono (by assumption) (by omega))) (Mem.sub M0 (.cons_cons _ (List.Sublist.append_left (List.Sublist.refl _) _))) hres) rfl
  | succ m ih =>
    intro a5 a0 a2 a4 a3 a6 a7 f9 e0 b2 b9 h M0 hres
    rw [digraph_clean_L2] at hres
    refine rc_loop ?_
    refine sR ?_
    refine bN i_lss rfl rfl ?_
    refine nS ?_
    refine rc_seq ?_
    refine rc_cond rfl ?_ ?_ <;> intro c <;> try simp only [qa, qaD] at c
    rotate_left
    · omega
    refine rc_skip ?_
    refine pn_seq ?_
    refine rc_seq ?_
    refine rc_block ?_
    refine sR ?_
    refine rd_op (ov_iaddr rfl rfl (slI c7 (by omega) (by omega))) ?_
    refine lR rfl rfl rfl ?_
    refine mV rfl ?_
    refine nR ?_
    refine mV rfl ?_
    refine mV rfl ?_
    obtain ⟨g1, e6, hres⟩ := let_ex hres
    have e3 := f33_ok (x1 := (ix (ix x0 a1) a5)) r0 
    rw [e6] at e3
    refine cL e3 rfl rfl (clL_cons (TR.clo (tSl (tSl tI)) r0) (clL_cons rfl clL_nil)) ?_
    refine nS ?_
    refine rc_br hres rfl ?_ ?_ <;> clear hres <;> intro c hres <;> try simp only [qa, qaD] at c
    · refine rc_region ?_
      refine mV rfl ?_
      refine mV rfl ?_
      refine mV rfl ?_
      refine mV rfl ?_
      have b3 : 0 ≤ a1 := (by omega)
      have c4 : a1 < (a0.length : Int) := (by omega)
      refine rd_op (ov_iaddr rfl rfl (n_idx 1 b3 (by omega))) ?_
      obtain ⟨e9, b0, d7, d3, d0, e5, f7, e2⟩ := ns_at (i := a1) a3 b3 c4
      have b4 : Mem h (⟨e9, 3, 1, b0⟩ :: ⟨.os a9 a8 0 x0.length, 31, 1, a2⟩ :: ((a4.eraseIdx (a1).toNat) ++ [])) := ns_focus (C := [⟨.os a9 a8 0 x0.length, 31, 1, a2⟩]) M0 d3
      refine rd_op (ov_elem (k := 1) b4 rfl rfl d7 (mem_one (k := 0) b4 rfl e5).2) ?_
      refine mV rfl ?_
      refine rd_op (v := .fs true [vi (ix (ix x0 a1) a5)]) (ov_bslice rfl (all_cons rfl all_nil)) ?_
      have f1 : (tSl tI).R ([(ix (ix x0 a1) a5)] : List Int) (.fs true [vi (ix (ix x0 a1) a5)]) := sl_fs ⟨rfl, trivial⟩ (by simp)
      obtain ⟨b1, d8, b8⟩ := src_of (t := tI) (h := h) f1
      have e1 : fits (b0.length + b1.length) 8 = true := by rw [All2.length_eq d0, All2.length_eq b8]; (try simp only [List.length_cons, List.length_nil]); exact fits_of (by first | omega | (have hk := b2 a1 (by omega) (by omega); have hr := hs.r a1 (by omega) (by omega); first | omega | (simp only [List.length_cons, List.length_nil]; omega))) (by first | omega | (have hk := b2 a1 (by omega) (by omega); have hr := hs.r a1 (by omega) (by omega); first | omega | (simp only [List.length_cons, List.length_nil]; omega)))
      refine rd_appW (k := 0) (es := b0) (news := b1) b4 rfl rfl rfl e5 e2 d8 e1 (fun b7 g2 e7 c8 d9 => ?_)
      have d4 : All2 tI.R ((ix a0 a1) ++ ([(ix (ix x0 a1) a5)] : List Int)) (b0 ++ b1) := All2.app d0 b8
      have d2 : ((ix a0 a1) ++ ([(ix (ix x0 a1) a5)] : List Int)).length ≤ 4611686018427387904 := by rw [← All2.length_eq d4, List.length_append]; exact fits_len e1
      have c6 : 0 ≤ a1 := (by omega)
      have f2 : a1 < (a0.length : Int) := (by omega)
      refine rd_op (ov_iaddr rfl rfl (n_idx 1 c6 (by omega))) ?_
      refine rd_setO (k := 1) (v := b7) d9 rfl rfl rfl (by rw [(Ns.len a3).1]; omega) (mem_cnt1 (k := 0) d9 rfl e7) (fun d1 c5 => ?_)
      replace c5 : Mem d1 (⟨b7, 3, 1, (b0 ++ b1)⟩ :: ⟨.os a9 a8 0 x0.length, 31, 1, (a2.set (a1).toNat b7)⟩ :: ((a4.eraseIdx (a1).toNat) ++ [])) := c5
      obtain ⟨b6, c2, f4, c9⟩ : ∃ b6 c2, Ns tI 3 (a0.set (a1).toNat ((ix a0 a1) ++ ([(ix (ix x0 a1) a5)] : List Int))) b6 c2 ∧ Mem d1 (⟨.os a9 a8 0 x0.length, 31, 1, b6⟩ :: (c2 ++ [])) := ⟨_, _, ns_put a3  d4 e7 d2 c8, ns_back (C := [⟨.os a9 a8 0 x0.length, 31, 1, (a2.set (a1).toNat b7)⟩]) c5 (by rw [(Ns.len a3).2]; omega)⟩
      have d5 : (a0.set (a1).toNat ((ix a0 a1) ++ ([(ix (ix x0 a1) a5)] : List Int))).length = x0.length := by rw [List.length_set]; exact a6
      have e4 : (a0.set (a1).toNat ((ix a0 a1) ++ ([(ix (ix x0 a1) a5)] : List Int))).length ≤ 4611686018427387904 := by rw [List.length_set]; exact a7
      refine rd_nil ?_
      refine pn_blk ?_
      refine pn_seq ?_
      refine rc_region ?_
      refine bN i_add rfl rfl ?_
      refine mV rfl ?_
      refine rd_nil ?_
      refine pn_again ?_
      have hbd := sl_bound c7
      have hinc : wr (a5 + 1) = a5 + 1 := wr_of (by omega) (by omega)
      erw [hinc]
      exact wC (ih  f4 d5 e4 (by omega) (by omega) (by first | omega | exact LB.mono (by assumption) (by omega) | exact LB.mono (LB.app (by assumption) (by omega) (by omega)) (by omega)) (by first | omega | exact LB.mono (by assumption) (by omega) | exact LB.mono (LB.app (by assumption) (by omega) (by omega)) (by omega)) (Mem.sub c9 (.cons_cons _ (List.Sublist.append_left (List.Sublist.refl _) _))) hres) rfl
    · refine rc_skip ?_
      refine pn_blk ?_
      refine pn_seq ?_
      refine rc_region ?_
      refine bN i_add rfl rfl ?_
      refine mV rfl ?_
      refine rd_nil ?_
      refine pn_again ?_
      have hbd := sl_bound c7
      have hinc : wr (a5 + 1) = a5 + 1 := wr_of (by omega) (by omega)
      erw [hinc]
      exact wC (ih  a3 a6 a7 (by omega) (by omega) (by first | omega | exact LB.mono (by assumption) (by omega) | exact LB.mono (LB.app (by assumption) (by omega) (by omega)) (by omega)) (by first | omega | exact LB.mono (by assumption) (by omega) | exact LB.mono (LB.app (by assumption) (by omega) (by omega)) (by omega)) (Mem.sub M0 (.cons_cons _ (List.Sublist.append_left (List.Sublist.refl _) _))) hres) rfl

theorem digraph_clean_L1_ok {S : List Fr} {res : (List (List Int))} {x0 : List (List Int)} {v0 : PV} {a5 a4 : Nat} (r0 : (tSl (tSl tI)).R x0 v0) (hs : Sm x0) (hn : x0.length ≤ 24) (h9 : (List.replicate x0.length ([] : List Int)).length = x0.length) (h2 : (List.replicate x0.length ([] : List Int)).length ≤ 4611686018427387904) {K0 : (List (List Int)) → (List (List Int))}
    (j6 : ∀ {a2 : List (List Int)} {a6 : List PV} {b2 : List Ent} (b5 : Ns tI 3 a2 a6 b2) (a7 : a2.length = x0.length) (a8 : a2.length ≤ 4611686018427387904) {h : Heap} (M0 : Mem h (⟨.os a5 a4 0 x0.length, 31, 1, a6⟩ :: (b2 ++ []))), K0 a2 = res → PX Try.prog 0 S (QR Try.prog [(2, none)] (RF37 res)) [(3, .os a5 a4 0 x0.length)] h) :
    ∀ {m : Nat} {a1 : Int} {a2 : List (List Int)} {a6 : List PV} {b2 : List Ent} (b5 : Ns tI 3 a2 a6 b2) (a7 : a2.length = x0.length) (a8 : a2.length ≤ 4611686018427387904) (j2 : m = Int.toNat ((x0.length : Int) - a1)) (f6 : 0 ≤ a1) (c7 : LB a2 (40 * a1)) {h : Heap} (M0 : Mem h (⟨.os a5 a4 0 x0.length, 31, 1, a6⟩ :: (b2 ++ []))), digraph_clean_L1 x0 K0 m a1 a2 = res → RC Try.prog (.loop ac37_L1) S (QR Try.prog [(2, none)] (RF37 res)) [(13, vi a1), (12, vi (x0.length : Int)), (11, v0), (3, .os a5 a4 0 x0.length), (0, v0)] h := by
  intro m
  induction m with
  | zero =>
    intro a1 a2 a6 b2 b5 a7 a8 j2 f6 c7 h M0 hres
    rw [digraph_clean_L1] at hres
    refine rc_loop ?_
    refine sR ?_
    refine bN i_lss rfl rfl ?_
    refine nS ?_
    refine rc_seq ?_
    refine rc_cond rfl ?_ ?_ <;> intro c <;> try simp only [qa, qaD] at c
    · omega
    refine rc_exit ?_
    refine px_seq ?_
    refine px_again ?_
    exact wP (j6 b5 a7 a8 (Mem.sub M0 (.cons_cons _ (List.Sublist.append_left (List.Sublist.refl _) _))) hres) rfl
  | succ m ih =>
    intro a1 a2 a6 b2 b5 a7 a8 j2 f6 c7 h M0 hres
    rw [digraph_clean_L1] at hres
    refine rc_loop ?_
    refine sR ?_
    refine bN i_lss rfl rfl ?_
    refine nS ?_
    refine rc_seq ?_
    refine rc_cond rfl (fun b8 => ?_) (fun b8 => ?_)
    · have hgo := hres
      have e8 := b8
      try simp only [qa, qaD] at e8
      refine rc_skip ?_
      refine pn_seq ?_
      refine rc_seq ?_
      refine rc_block ?_
      refine sR ?_
      refine mV rfl ?_
      obtain ⟨j7, j1, f5⟩ := sl_idx (i := a1) r0 (by omega) (by omega)
      refine rd_op (ov_iaddr rfl rfl j1) ?_
      refine lD f5 rfl rfl rfl ?_
      refine mV rfl ?_
      refine mV rfl ?_
      refine nS ?_
      refine rc_seq ?_
      refine sR ?_
      refine mV rfl ?_
      refine rd_op (ov_bi rfl (sl_len f5 Try.underlying31 _)) ?_
      refine mI rfl ?_
      refine nS ?_
      refine rc_block ?_
      refine wC (digraph_clean_L2_ok r0 hs hn h9 h2 a7 a8 f6 c7 b8 f5 ?_  b5 a7 a8 rfl (by omega) (by first | omega | exact LB.mono (by assumption) (by omega)) (by first | omega | exact LB.mono (by assumption) (by omega)) (Mem.sub M0 (.cons_cons _ (List.Sublist.append_left (List.Sublist.refl _) _))) hres) rfl
      · intro a0 a3 b6 b1 b9 c3 b4 g6 i5 hres
        refine px_blk ?_
        refine pn_seq ?_
        refine rc_seq ?_
        refine rc_regionS ?_
        refine rs_step ?_
        refine mV rfl ?_
        refine rs_back ?_
        refine rs_step ?_
        refine mV rfl ?_
        refine rs_back ?_
        refine rs_step ?_
        have d0 : 0 ≤ a1 := (by omega)
        have f2 : a1 < (a0.length : Int) := (by omega)
        refine rd_op (ov_iaddr rfl rfl (n_idx 1 d0 (by omega))) ?_
        refine rs_back ?_
        refine rs_step ?_
        obtain ⟨h5, e4, e2, h7, i8, f0, g0, g7⟩ := ns_at (i := a1) b1 d0 f2
        have c6 : Mem g6 (⟨h5, 3, 1, e4⟩ :: ⟨.os a5 a4 0 x0.length, 31, 1, a3⟩ :: ((b6.eraseIdx (a1).toNat) ++ [])) := ns_focus (C := [⟨.os a5 a4 0 x0.length, 31, 1, a3⟩]) i5 h7
        refine rd_op (ov_elem (k := 1) c6 rfl rfl e2 (mem_one (k := 0) c6 rfl f0).2) ?_
        refine rs_back ?_
        have i3 : Mem g6 (⟨h5, 3, 1, e4⟩ :: ⟨.os a5 a4 0 x0.length, 31, 1, a3⟩ :: ((b6.eraseIdx (a1).toNat) ++ [])) := (Mem.front (k := 0) c6 rfl)
        obtain ⟨b3, e3, hres⟩ := let_ex hres
        obtain ⟨j5, f3, h1, e0⟩ := f44_ok (x0 := (ix a0 a1)) i8 f0 g0 g7 i3 (by (have hk := b4 a1 (by omega) (by omega); omega))
        rw [e3] at e0
        obtain ⟨h4, i6, c4, d1, d3, c9⟩ := e0
        replace c9 := c9.symm; subst c9
        refine rs_callXc rfl rfl h1 ?_
        have j4 := so_use e3
        obtain ⟨a9, c2, d5, i0⟩ : ∃ a9 c2, Ns tI 3 (a0.set (a1).toNat b3) a9 c2 ∧ Mem f3 (⟨.os a5 a4 0 x0.length, 31, 1, a9⟩ :: (c2 ++ [])) := ⟨_, _, ns_put0 b1 e2  c4 f0 d1 d3, ns_back (C := [⟨.os a5 a4 0 x0.length, 31, 1, a3⟩]) i6 (by rw [(Ns.len b1).2]; omega)⟩
        have i2 : (a0.set (a1).toNat b3).length = x0.length := by rw [List.length_set]; exact b9
        have h3 : (a0.set (a1).toNat b3).length ≤ 4611686018427387904 := by rw [List.length_set]; exact c3
        refine rs_nil ?_
        refine pn_seq ?_
        refine rc_regionS ?_
        refine rs_step ?_
        refine mV rfl ?_
        refine rs_back ?_
        refine rs_step ?_
        refine mV rfl ?_
        refine rs_back ?_
        refine rs_step ?_
        refine mV rfl ?_
        refine rs_back ?_
        refine rs_step ?_
        refine mV rfl ?_
        refine rs_back ?_
        refine rs_step ?_
        have c8 : 0 ≤ a1 := (by omega)
        have e7 : a1 < ((a0.set (a1).toNat b3).length : Int) := (by omega)
        refine rd_op (ov_iaddr rfl rfl (n_idx 1 c8 (by omega))) ?_
        refine rs_back ?_
        refine rs_step ?_
        obtain ⟨f8, e1, g4, h0, i7, h8, h6, g3⟩ := ns_at (i := a1) d5 c8 e7
        have c5 : Mem f3 (⟨f8, 3, 1, e1⟩ :: ⟨.os a5 a4 0 x0.length, 31, 1, a9⟩ :: ((c2.eraseIdx (a1).toNat) ++ [])) := ns_focus (C := [⟨.os a5 a4 0 x0.length, 31, 1, a9⟩]) i0 h0
        refine rd_op (ov_elem (k := 1) c5 rfl rfl g4 (mem_one (k := 0) c5 rfl h8).2) ?_
        refine rs_back ?_
        have i9 : Mem f3 (⟨f8, 3, 1, e1⟩ :: ⟨.os a5 a4 0 x0.length, 31, 1, a9⟩ :: ((c2.eraseIdx (a1).toNat) ++ [])) := (Mem.front (k := 0) c5 rfl)
        obtain ⟨f1, e5, hres⟩ := let_ex hres
        obtain ⟨j3, j8, g8, e6⟩ := f45_ok (x0 := (ix (a0.set (a1).toNat b3) a1)) i7 h8 h6 g3 i9 
        rw [e5] at e6
        obtain ⟨b0, d9, f9, d7, b7, d6, d8, d2⟩ := e6
        replace d2 := d2.symm; subst d2
        refine rs_callXc rfl rfl g8 ?_
        have i1 := co_use e5
        refine rs_step ?_
        have f4 : 0 ≤ a1 := (by omega)
        have j0 : a1 < ((a0.set (a1).toNat b3).length : Int) := (by omega)
        refine rd_op (ov_iaddr rfl rfl (n_idx 1 f4 (by omega))) ?_
        refine rs_back ?_
        refine rs_step ?_
        refine rd_setO (k := 1) (v := b0) f9 rfl rfl rfl (by rw [(Ns.len d5).1]; omega) (mem_cnt1 (k := 0) f9 rfl b7) (fun g1 f7 => ?_)
        replace f7 : Mem g1 (⟨b0, 3, 1, d9⟩ :: ⟨.os a5 a4 0 x0.length, 31, 1, (a9.set (a1).toNat b0)⟩ :: ((c2.eraseIdx (a1).toNat) ++ [])) := f7
        obtain ⟨d4, e9, i4, g2⟩ : ∃ d4 e9, Ns tI 3 ((a0.set (a1).toNat b3).set (a1).toNat f1) d4 e9 ∧ Mem g1 (⟨.os a5 a4 0 x0.length, 31, 1, d4⟩ :: (e9 ++ [])) := ⟨_, _, ns_put d5  d7 b7 d6 d8, ns_back (C := [⟨.os a5 a4 0 x0.length, 31, 1, (a9.set (a1).toNat b0)⟩]) f7 (by rw [(Ns.len d5).2]; omega)⟩
        have g5 : ((a0.set (a1).toNat b3).set (a1).toNat f1).length = x0.length := by rw [List.length_set]; exact i2
        have g9 : ((a0.set (a1).toNat b3).set (a1).toNat f1).length ≤ 4611686018427387904 := by rw [List.length_set]; exact h3
        refine rs_back ?_
        refine rs_nil ?_
        refine pn_blk ?_
        refine pn_seq ?_
        refine rc_region ?_
        refine bN i_add rfl rfl ?_
        refine mV rfl ?_
        refine rd_nil ?_
        refine pn_again ?_
        have hbd := sl_bound r0
        have hinc : wr (a1 + 1) = a1 + 1 := wr_of (by omega) (by omega)
        erw [hinc]
        exact wC (ih  i4 g5 g9 (by omega) (by omega) (by (have hk := b4 a1 (by omega) (by omega); exact LB.mono (LB.set (LB.set b4 (by omega) (by omega)) (by omega) (by rw [ix_set (by omega) (by omega) (by omega), if_pos rfl] at i1; omega)) (by omega))) (Mem.sub g2 (.cons_cons _ (List.Sublist.append_left (List.Sublist.refl _) _))) hres) rfl
    · exfalso
      try simp only [qa, qaD] at b8
      omega

theorem f37_ok {x0 : List (List Int)} {v0 : PV} (r0 : (tSl (tSl tI)).R x0 v0) (hs : Sm x0) : ∃ r, FnR Try.prog 37 [v0] r ∧ (tSl (tSl tI)).R (digraph_clean x0) r := by
  refine fnT (R := RF37) text37 rfl fun res hres => ?_
  unfold digraph_clean at hres
  have hn : x0.length ≤ 24 := hs.n
  refine sR ?_
  refine rd_op (v := nilS) (ov_move rfl) ?_
  refine nR ?_
  refine mV rfl ?_
  refine rd_op (ov_bi rfl (sl_len r0 Try.underlying22 _)) ?_
  have b0 : fits (x0.length) 24 = true := fits_of (by first | omega | (have hk := iv2_0 x13_ (by omega) (by omega); have hr := hs.r x13_ (by omega) (by omega); first | omega | (simp only [List.length_cons, List.length_nil]; omega))) (by first | omega | (have hk := iv2_0 x13_ (by omega) (by omega); have hr := hs.r x13_ (by omega) (by omega); first | omega | (simp only [List.length_cons, List.length_nil]; omega)))
  refine rd_makeO (sz := 1) (ty := 31) (n := x0.length) (zz := nilS) (Mem.nil ⟨0, []⟩) rfl rfl rfl rfl rfl b0 (fun a7 a6 b4 b5 => ?_)
  have b9 : All2 (tSl tI).R (List.replicate x0.length ([] : List Int)) (List.replicate x0.length nilS) := All2.rep (show (tSl tI).R ([] : List Int) nilS from sl_nil) _
  have a2 : (List.replicate x0.length ([] : List Int)).length = x0.length := List.length_replicate
  have a4 : (List.replicate x0.length ([] : List Int)).length ≤ 4611686018427387904 := by rw [a2]; exact fits_len b0
  obtain ⟨a5, b7, b1⟩ : ∃ a5, Ns tI 3 (List.replicate x0.length ([] : List Int)) (List.replicate x0.length nilS) a5 ∧ Mem b4 (⟨.os a7 a6 0 x0.length, 31, 1, (List.replicate x0.length nilS)⟩ :: (a5 ++ [])) := ⟨_, ns_rep _, ns_new (C := [⟨.os a7 a6 0 x0.length, 31, 1, (List.replicate x0.length nilS)⟩]) b5 3 1 _⟩
  refine mV rfl ?_
  refine nS ?_
  refine rc_seq ?_
  refine sR ?_
  refine mV rfl ?_
  refine rd_op (ov_bi rfl (sl_len r0 Try.underlying22 _)) ?_
  refine mI rfl ?_
  refine nS ?_
  refine rc_block ?_
  refine wC (digraph_clean_L1_ok r0 hs hn a2 a4 ?_  b7 a2 a4 rfl (by omega) (by exact lb_rep (by omega)) (Mem.sub b1 (.cons_cons _ (List.Sublist.append_left (List.Sublist.refl _) _))) hres) rfl
  · intro a9 a1 b2 a3 a8 a0 c3 b8 hres
    refine px_blk ?_
    refine pn_seq ?_
    refine sR ?_
    refine mV rfl ?_
    refine mV rfl ?_
    refine nS ?_
    obtain ⟨c2, b6, b3⟩ := ns_deep (P := Try.prog) (k := 0) (C := [⟨.os a7 a6 0 x0.length, 31, 1, a1⟩]) b8 rfl rfl a3 (Nat.le_trans a0 (by decide))
    subst hres
    exact rc_retV (.tmp rfl .nil) b6 b3

def RF29 (res : (List (List Int))) (r : PV) : Prop := (tSl (tSl tI)).R res r
theorem digraph_Reverse_L2_ok {S : List Fr} {res : (List (List Int))} {x0 : List (List Int)} {a4 : (List (List Int))} {a1 : Int} {b7 : List (List Int)} {c9 e4 : PV} {b1 b0 : Nat} (hs : Sm x0) (hn : x0.length ≤ 24) (g0 : (List.replicate x0.length ([] : List Int)).length = x0.length) (f8 : (List.replicate x0.length ([] : List Int)).length ≤ 4611686018427387904) (g2 : digraph_clean x0 = a4) (a7 : Gd x0.length a4) (f7 : a4.length = x0.length) (f1 : b7.length = x0.length) (f4 : b7.length ≤ 4611686018427387904) (g5 : 0 ≤ a1) (f6 : LB b7 (40 * a1)) (d8 : (decide (a1 < (a4.length : Int))) = true) (d2 : (tSl tI).R (ix a4 a1) e4) {K2 : (List (List Int)) → (List (List Int))}
    (g3 : ∀ {a0 : List (List Int)} {a3 : List PV} {a5 : List Ent} (a6 : Ns tI 3 a0 a3 a5) (a8 : a0.length = x0.length) (a9 : a0.length ≤ 4611686018427387904) (g6 : LB a0 (40 * a1 + 40)) {h : Heap} (M0 : Mem h (⟨.os b1 b0 0 x0.length, 31, 1, a3⟩ :: (a5 ++ []))), K2 a0 = res → PX Try.prog 2 S (QR Try.prog [(2, none)] (RF29 res)) [(3, .os b1 b0 0 x0.length), (12, c9), (13, vi (a4.length : Int)), (14, vi a1)] h) :
    ∀ {m : Nat} {a2 : Int} {a0 : List (List Int)} {a3 : List PV} {a5 : List Ent} (a6 : Ns tI 3 a0 a3 a5) (a8 : a0.length = x0.length) (a9 : a0.length ≤ 4611686018427387904) (g1 : m = Int.toNat (((ix a4 a1).length : Int) - a2)) (e3 : 0 ≤ a2) (b4 : LB a0 (40 * a1 + a2)) (c3 : a2 ≤ ((ix a4 a1).length : Int)) {h : Heap} (M0 : Mem h (⟨.os b1 b0 0 x0.length, 31, 1, a3⟩ :: (a5 ++ []))), digraph_Reverse_L2 a4 a1 K2 m a2 a0 = res → RC Try.prog (.loop ac29_L2) S (QR Try.prog [(2, none)] (RF29 res)) [(21, vi a2), (20, vi ((ix a4 a1).length : Int)), (19, e4), (14, vi a1), (13, vi (a4.length : Int)), (12, c9), (4, vi a1), (3, .os b1 b0 0 x0.length)] h := by
  have c8 := d8
  try simp only [qa, qaD] at c8
  intro m
  induction m with
  | zero =>
    intro a2 a0 a3 a5 a6 a8 a9 g1 e3 b4 c3 h M0 hres
    rw [digraph_Reverse_L2] at hres
    refine rc_loop ?_
    refine sR ?_
    refine bN i_lss rfl rfl ?_
    refine nS ?_
    refine rc_seq ?_
    refine rc_cond rfl ?_ ?_ <;> intro c <;> try simp only [qa, qaD] at c
    · omega
    refine rc_exit ?_
    refine px_seq ?_
    refine px_again ?_
    exact wP (g3 a6 a8 a9 (by (have hr := a7.r a1 (by omega) (by omega); exact LB.mono (by assumption) (by omega))) (Mem.sub M0 (.cons_cons _ (List.Sublist.append_left (List.Sublist.refl _) _))) hres) rfl
  | succ m ih =>
    intro a2 a0 a3 a5 a6 a8 a9 g1 e3 b4 c3 h M0 hres
    rw [digraph_Reverse_L2] at hres
    refine rc_loop ?_
    refine sR ?_
    refine bN i_lss rfl rfl ?_
    refine nS ?_
    refine rc_seq ?_
    refine rc_cond rfl ?_ ?_ <;> intro c <;> try simp only [qa, qaD] at c
    rotate_left
    · omega
    refine rc_skip ?_
    refine pn_seq ?_
    refine rc_seq ?_
    refine rc_block ?_
    refine sR ?_
    refine rd_op (ov_iaddr rfl rfl (slI d2 (by first | omega | (have hk := a7.at (k := a1) (i := a2) (by omega) (by omega) (by omega) (by omega); omega)) (by first | omega | (have hk := a7.at (k := a1) (i := a2) (by omega) (by omega) (by omega) (by omega); omega)))) ?_
    refine lR rfl rfl rfl ?_
    refine mV rfl ?_
    refine nS ?_
    refine rc_region ?_
    refine mV rfl ?_
    refine mV rfl ?_
    refine mV rfl ?_
    refine mV rfl ?_
    have b5 : 0 ≤ (ix (ix a4 a1) a2) := (by first | omega | (have hk := a7.at (k := a1) (i := a2) (by omega) (by omega) (by omega) (by omega); omega))
    have c5 : (ix (ix a4 a1) a2) < (a0.length : Int) := (by first | omega | (have hk := a7.at (k := a1) (i := a2) (by omega) (by omega) (by omega) (by omega); omega))
    refine rd_op (ov_iaddr rfl rfl (n_idx 1 b5 (by omega))) ?_
    obtain ⟨f0, b2, e0, d6, d3, e8, f9, e6⟩ := ns_at (i := (ix (ix a4 a1) a2)) a6 b5 c5
    have b6 : Mem h (⟨f0, 3, 1, b2⟩ :: ⟨.os b1 b0 0 x0.length, 31, 1, a3⟩ :: ((a5.eraseIdx ((ix (ix a4 a1) a2)).toNat) ++ [])) := ns_focus (C := [⟨.os b1 b0 0 x0.length, 31, 1, a3⟩]) M0 d6
    refine rd_op (ov_elem (k := 1) b6 rfl rfl e0 (mem_one (k := 0) b6 rfl e8).2) ?_
    refine mV rfl ?_
    refine rd_op (v := .fs true [vi a1]) (ov_bslice rfl (all_cons rfl all_nil)) ?_
    have f2 : (tSl tI).R ([a1] : List Int) (.fs true [vi a1]) := sl_fs ⟨rfl, trivial⟩ (by simp)
    obtain ⟨b3, e1, c2⟩ := src_of (t := tI) (h := h) f2
    have e5 : fits (b2.length + b3.length) 8 = true := by rw [All2.length_eq d3, All2.length_eq c2]; (try simp only [List.length_cons, List.length_nil]); exact fits_of (by first | omega | (have hr := a7.r a1 (by omega) (by omega); have hk := b4 (ix (ix a4 a1) a2) (by omega) (by omega); first | omega | (simp only [List.length_cons, List.length_nil]; omega))) (by first | omega | (have hr := a7.r a1 (by omega) (by omega); have hk := b4 (ix (ix a4 a1) a2) (by omega) (by omega); first | omega | (simp only [List.length_cons, List.length_nil]; omega)))
    refine rd_appW (k := 0) (es := b2) (news := b3) b6 rfl rfl rfl e8 e6 e1 e5 (fun b9 g4 e9 d0 e2 => ?_)
    have d7 : All2 tI.R ((ix a0 (ix (ix a4 a1) a2)) ++ ([a1] : List Int)) (b2 ++ b3) := All2.app d3 c2
    have d5 : ((ix a0 (ix (ix a4 a1) a2)) ++ ([a1] : List Int)).length ≤ 4611686018427387904 := by rw [← All2.length_eq d7, List.length_append]; exact fits_len e5
    have c7 : 0 ≤ (ix (ix a4 a1) a2) := (by first | omega | (have hk := a7.at (k := a1) (i := a2) (by omega) (by omega) (by omega) (by omega); omega))
    have f3 : (ix (ix a4 a1) a2) < (a0.length : Int) := (by first | omega | (have hk := a7.at (k := a1) (i := a2) (by omega) (by omega) (by omega) (by omega); omega))
    refine rd_op (ov_iaddr rfl rfl (n_idx 1 c7 (by omega))) ?_
    refine rd_setO (k := 1) (v := b9) e2 rfl rfl rfl (by rw [(Ns.len a6).1]; omega) (mem_cnt1 (k := 0) e2 rfl e9) (fun d4 c6 => ?_)
    replace c6 : Mem d4 (⟨b9, 3, 1, (b2 ++ b3)⟩ :: ⟨.os b1 b0 0 x0.length, 31, 1, (a3.set ((ix (ix a4 a1) a2)).toNat b9)⟩ :: ((a5.eraseIdx ((ix (ix a4 a1) a2)).toNat) ++ [])) := c6
    obtain ⟨b8, c4, f5, d1⟩ : ∃ b8 c4, Ns tI 3 (a0.set ((ix (ix a4 a1) a2)).toNat ((ix a0 (ix (ix a4 a1) a2)) ++ ([a1] : List Int))) b8 c4 ∧ Mem d4 (⟨.os b1 b0 0 x0.length, 31, 1, b8⟩ :: (c4 ++ [])) := ⟨_, _, ns_put a6  d7 e9 d5 d0, ns_back (C := [⟨.os b1 b0 0 x0.length, 31, 1, (a3.set ((ix (ix a4 a1) a2)).toNat b9)⟩]) c6 (by rw [(Ns.len a6).2]; omega)⟩
    have d9 : (a0.set ((ix (ix a4 a1) a2)).toNat ((ix a0 (ix (ix a4 a1) a2)) ++ ([a1] : List Int))).length = x0.length := by rw [List.length_set]; exact a8
    have e7 : (a0.set ((ix (ix a4 a1) a2)).toNat ((ix a0 (ix (ix a4 a1) a2)) ++ ([a1] : List Int))).length ≤ 4611686018427387904 := by rw [List.length_set]; exact a9
    refine rd_nil ?_
    refine pn_blk ?_
    refine pn_seq ?_
    refine rc_region ?_
    refine bN i_add rfl rfl ?_
    refine mV rfl ?_
    refine rd_nil ?_
    refine pn_again ?_
    have hbd := sl_bound d2
    have hinc : wr (a2 + 1) = a2 + 1 := wr_of (by omega) (by omega)
    erw [hinc]
    exact wC (ih  f5 d9 e7 (by omega) (by omega) (by first | omega | (have hk := a7.at (k := a1) (i := a2) (by omega) (by omega) (by omega) (by omega); exact LB.mono (LB.app (by assumption) (by omega) (by omega)) (by omega))) (by first | omega | (have hk := a7.at (k := a1) (i := a2) (by omega) (by omega) (by omega) (by omega); exact LB.mono (LB.app (by assumption) (by omega) (by omega)) (by omega))) (Mem.sub d1 (.cons_cons _ (List.Sublist.append_left (List.Sublist.refl _) _))) hres) rfl

theorem digraph_Reverse_L1_ok {S : List Fr} {res : (List (List Int))} {x0 : List (List Int)} {a7 : (List (List Int))} {c3 : PV} {b5 b4 : Nat} (hs : Sm x0) (hn : x0.length ≤ 24) (c7 : (List.replicate x0.length ([] : List Int)).length = x0.length) (c8 : (List.replicate x0.length ([] : List Int)).length ≤ 4611686018427387904) (c9 : digraph_clean x0 = a7) (c6 : (tSl (tSl tI)).R a7 c3) (b1 : Gd x0.length a7) (c5 : a7.length = x0.length) {K0 : (List (List Int)) → (List (List Int))}
    (d4 : ∀ {a0 : List (List Int)} {a1 : List PV} {a5 : List Ent} (a6 : Ns tI 3 a0 a1 a5) (a2 : a0.length = x0.length) (a3 : a0.length ≤ 4611686018427387904) {h : Heap} (M0 : Mem h (⟨.os b5 b4 0 x0.length, 31, 1, a1⟩ :: (a5 ++ []))), K0 a0 = res → PX Try.prog 0 S (QR Try.prog [(2, none)] (RF29 res)) [(3, .os b5 b4 0 x0.length)] h) :
    ∀ {m : Nat} {a4 : Int} {a0 : List (List Int)} {a1 : List PV} {a5 : List Ent} (a6 : Ns tI 3 a0 a1 a5) (a2 : a0.length = x0.length) (a3 : a0.length ≤ 4611686018427387904) (d3 : m = Int.toNat ((a7.length : Int) - a4)) (b8 : 0 ≤ a4) (b3 : LB a0 (40 * a4)) {h : Heap} (M0 : Mem h (⟨.os b5 b4 0 x0.length, 31, 1, a1⟩ :: (a5 ++ []))), digraph_Reverse_L1 a7 K0 m a4 a0 = res → RC Try.prog (.loop ac29_L1) S (QR Try.prog [(2, none)] (RF29 res)) [(14, vi a4), (13, vi (a7.length : Int)), (12, c3), (3, .os b5 b4 0 x0.length)] h := by
  intro m
  induction m with
  | zero =>
    intro a4 a0 a1 a5 a6 a2 a3 d3 b8 b3 h M0 hres
    rw [digraph_Reverse_L1] at hres
    refine rc_loop ?_
    refine sR ?_
    refine bN i_lss rfl rfl ?_
    refine nS ?_
    refine rc_seq ?_
    refine rc_cond rfl ?_ ?_ <;> intro c <;> try simp only [qa, qaD] at c
    · omega
    refine rc_exit ?_
    refine px_seq ?_
    refine px_again ?_
    exact wP (d4 a6 a2 a3 (Mem.sub M0 (.cons_cons _ (List.Sublist.append_left (List.Sublist.refl _) _))) hres) rfl
  | succ m ih =>
    intro a4 a0 a1 a5 a6 a2 a3 d3 b8 b3 h M0 hres
    rw [digraph_Reverse_L1] at hres
    refine rc_loop ?_
    refine sR ?_
    refine bN i_lss rfl rfl ?_
    refine nS ?_
    refine rc_seq ?_
    refine rc_cond rfl (fun a8 => ?_) (fun a8 => ?_)
    · have hgo := hres
      have b9 := a8
      try simp only [qa, qaD] at b9
      refine rc_skip ?_
      refine pn_seq ?_
      refine rc_seq ?_
      refine rc_block ?_
      refine sR ?_
      refine mV rfl ?_
      obtain ⟨d6, d2, b7⟩ := sl_idx (i := a4) c6 (by first | omega | (have hk := b1.at (k := a4) (i := x21_) (by omega) (by omega) (by omega) (by omega); omega)) (by first | omega | (have hk := b1.at (k := a4) (i := x21_) (by omega) (by omega) (by omega) (by omega); omega))
      refine rd_op (ov_iaddr rfl rfl d2) ?_
      refine lD b7 rfl rfl rfl ?_
      refine mV rfl ?_
      refine mV rfl ?_
      refine nR ?_
      refine mV rfl ?_
      refine rd_op (ov_bi rfl (sl_len b7 Try.underlying31 _)) ?_
      refine mI rfl ?_
      refine nS ?_
      refine rc_block ?_
      refine wC (digraph_Reverse_L2_ok hs hn c7 c8 c9 b1 c5 a2 a3 b8 b3 a8 b7 ?_  a6 a2 a3 rfl (by omega) (by first | omega | exact LB.mono (by assumption) (by omega)) (by first | omega | exact LB.mono (by assumption) (by omega)) (Mem.sub M0 (.cons_cons _ (List.Sublist.append_left (List.Sublist.refl _) _))) hres) rfl
      · intro b6 c2 c4 b2 b0 a9 d0 d5 d1 hres
        refine px_blk ?_
        refine pn_blk ?_
        refine pn_seq ?_
        refine rc_region ?_
        refine bN i_add rfl rfl ?_
        refine mV rfl ?_
        refine rd_nil ?_
        refine pn_again ?_
        have hbd := sl_bound c6
        have hinc : wr (a4 + 1) = a4 + 1 := wr_of (by omega) (by omega)
        erw [hinc]
        exact wC (ih  b2 b0 a9 (by omega) (by omega) (by exact LB.mono (by assumption) (by omega)) (Mem.sub d1 (.cons_cons _ (List.Sublist.append_left (List.Sublist.refl _) _))) hres) rfl
    · exfalso
      try simp only [qa, qaD] at a8
      omega

theorem f29_ok {x0 : List (List Int)} {v0 : PV} (r0 : (tSl (tSl tI)).R x0 v0) (hs : Sm x0) : ∃ r, FnR Try.prog 29 [v0] r ∧ (tSl (tSl tI)).R (digraph_Reverse x0) r := by
  refine fnT (R := RF29) text29 rfl fun res hres => ?_
  unfold digraph_Reverse at hres
  have hn : x0.length ≤ 24 := hs.n
  refine sR ?_
  refine rd_op (v := nilS) (ov_move rfl) ?_
  refine nR ?_
  refine mV rfl ?_
  refine rd_op (ov_bi rfl (sl_len r0 Try.underlying22 _)) ?_
  have b6 : fits (x0.length) 24 = true := fits_of (by first | omega | (have hr := a0.r x14_ (by omega) (by omega); have hk := iv2_0 (ix (ix a6 x14_) x21_) (by omega) (by omega); first | omega | (simp only [List.length_cons, List.length_nil]; omega))) (by first | omega | (have hr := a0.r x14_ (by omega) (by omega); have hk := iv2_0 (ix (ix a6 x14_) x21_) (by omega) (by omega); first | omega | (simp only [List.length_cons, List.length_nil]; omega)))
  refine rd_makeO (sz := 1) (ty := 31) (n := x0.length) (zz := nilS) (Mem.nil ⟨0, []⟩) rfl rfl rfl rfl rfl b6 (fun b1 b0 b8 b9 => ?_)
  have c8 : All2 (tSl tI).R (List.replicate x0.length ([] : List Int)) (List.replicate x0.length nilS) := All2.rep (show (tSl tI).R ([] : List Int) nilS from sl_nil) _
  have a3 : (List.replicate x0.length ([] : List Int)).length = x0.length := List.length_replicate
  have a7 : (List.replicate x0.length ([] : List Int)).length ≤ 4611686018427387904 := by rw [a3]; exact fits_len b6
  obtain ⟨a9, c6, b7⟩ : ∃ a9, Ns tI 3 (List.replicate x0.length ([] : List Int)) (List.replicate x0.length nilS) a9 ∧ Mem b8 (⟨.os b1 b0 0 x0.length, 31, 1, (List.replicate x0.length nilS)⟩ :: (a9 ++ [])) := ⟨_, ns_rep _, ns_new (C := [⟨.os b1 b0 0 x0.length, 31, 1, (List.replicate x0.length nilS)⟩]) b9 3 1 _⟩
  refine mV rfl ?_
  refine nS ?_
  refine rc_seq ?_
  refine sR ?_
  refine mV rfl ?_
  obtain ⟨a6, a5, hres⟩ := let_ex hres
  obtain ⟨c7, c4, a8⟩ := f37_ok  r0 (by first | assumption | omega)
  rw [a5] at a8
  have a0 : Gd x0.length a6 := clean_gd hs a5
  have b4 : a6.length = x0.length := a0.len
  refine cL c4 rfl rfl (clL_cons (TR.clo (tSl (tSl tI)) r0) clL_nil) ?_
  refine rd_op (ov_bi rfl (sl_len a8 Try.underlying22 _)) ?_
  refine mI rfl ?_
  refine nS ?_
  refine rc_block ?_
  refine wC (digraph_Reverse_L1_ok hs hn a3 a7 a5 a8 a0 b4 ?_  c6 a3 a7 rfl (by omega) (by exact lb_rep (by omega)) (Mem.sub b7 (.cons_cons _ (List.Sublist.append_left (List.Sublist.refl _) _))) hres) rfl
  · intro b2 a1 b5 a4 b3 a2 c9 c3 hres
    refine px_blk ?_
    refine pn_seq ?_
    refine sR ?_
    refine mV rfl ?_
    refine mV rfl ?_
    refine nS ?_
    obtain ⟨d0, c5, c2⟩ := ns_deep (P := Try.prog) (k := 0) (C := [⟨.os b1 b0 0 x0.length, 31, 1, a1⟩]) c3 rfl rfl a4 (Nat.le_trans a2 (by decide))
    subst hres
    exact rc_retV (.tmp rfl .nil) c5 c2

def RF43 (i2_ w2_ i3_ w3_ : Nat) (R_ : List Ent) (res : (List Int) × (List Int)) (r : PV) (h : Heap) : Prop := ∃ aF0_0 : PV, ∃ esF0_0 : List PV, ∃ aF1_0 : PV, ∃ esF1_0 : List PV, Mem h (⟨.op i2_ w2_ 0, 31, 1, [aF0_0]⟩ :: ⟨aF0_0, 3, 1, esF0_0⟩ :: ⟨.op i3_ w3_ 0, 31, 1, [aF1_0]⟩ :: ⟨aF1_0, 3, 1, esF1_0⟩ :: R_) ∧ (All2 tI.R res.1 esF0_0) ∧ (isL aF0_0 = true) ∧ (res.1.length ≤ 4611686018427387904) ∧ (Wri aF0_0 esF0_0) ∧ (All2 tI.R res.2 esF1_0) ∧ (isL aF1_0 = true) ∧ (res.2.length ≤ 4611686018427387904) ∧ (Wri aF1_0 esF1_0) ∧ r = .tup []
theorem f43_ok {x0 x1 : Int} {c0 c1 : List Int} {b0 : PV} {a1 : List PV} {a3 : PV} {a0 : List PV} {R_ : List Ent} {h_ : Heap} {c9 c5 c8 c3 : Nat} (a2 : All2 tI.R c0 a1) (b7 : isL b0 = true) (b3 : c0.length ≤ 4611686018427387904) (c4 : Wri b0 a1) (a8 : All2 tI.R c1 a0) (a9 : isL a3 = true) (b9 : c1.length ≤ 4611686018427387904) (b4 : Wri a3 a0) (M_ : Mem h_ (⟨.op c9 c5 0, 31, 1, [b0]⟩ :: ⟨b0, 3, 1, a1⟩ :: ⟨.op c8 c3 0, 31, 1, [a3]⟩ :: ⟨a3, 3, 1, a0⟩ :: R_)) (hw : 0 ≤ x0 ∧ x0 < (c0.length : Int)) (hq : c1.length ≤ 1000) : ∃ r e9, FnX Try.prog 43 [vi x0, vi x1, .op c9 c5 0, .op c8 c3 0] h_ r e9 ∧ RF43 c9 c5 c8 c3 R_ (digraph_distances_1 x0 x1 c0 c1) r e9 := by
  refine fnXX (R := RF43 c9 c5 c8 c3 R_) text43 rfl fun res hres => ?_
  unfold digraph_distances_1 at hres
  refine sR ?_
  refine rd_op (ov_load0 (k := 0) M_ rfl rfl (mem_one (k := 1) M_ rfl b7).2) ?_
  refine mV rfl ?_
  obtain ⟨a6, a7, a4, d9⟩ := wri_os (i := x0) c4 a2 (by omega) (by omega)
  subst d9
  have d4 : c0.length = a4 := by rw [mem_osn M_ (k := 1) rfl, All2.length_eq a2]
  have b2 : 0 ≤ x0 := (by omega)
  have c7 : x0 < (c0.length : Int) := (by omega)
  refine rd_op (ov_iaddr rfl rfl (n_idx 1 b2 (by omega))) ?_
  obtain ⟨e7, e4, b8⟩ := elem_at (i := x0) a2 b2 c7
  have b8 : e7 = vi (ix c0 x0) := b8; subst b8
  refine rd_op (ov_elem (k := 1) M_ rfl rfl e4 rfl) ?_
  refine bN i_lss rfl rfl ?_
  refine nS ?_
  refine rc_br hres rfl ?_ ?_ <;> clear hres <;> intro c hres <;> try simp only [qa, qaD] at c
  · refine sR ?_
    refine rd_op (ov_load0 (k := 0) M_ rfl rfl (mem_one (k := 1) M_ rfl rfl).2) ?_
    refine mV rfl ?_
    refine mV rfl ?_
    have c2 : 0 ≤ x0 := (by omega)
    have e8 : x0 < (c0.length : Int) := (by omega)
    refine rd_op (ov_iaddr rfl rfl (n_idx 1 c2 (by omega))) ?_
    refine rd_setO (k := 1) (v := vi x1) M_ rfl rfl rfl (by rw [All2.length_eq a2]; omega) rfl (fun e3 b6 => ?_)
    have e5 := All2.set (i := (x0).toNat) a2 (show tI.R x1 (vi x1) from rfl)
    have e1 : (c0.set (x0).toNat x1).length ≤ 4611686018427387904 := by simp only [List.length_set]; exact b3
    have f0 : (c0.set (x0).toNat x1).length = a4 := by simp only [List.length_set]; exact d4
    refine nS ?_
    refine rc_region ?_
    refine rd_op (ov_load0 (k := 2) b6 rfl rfl (mem_one (k := 3) b6 rfl a9).2) ?_
    refine mV rfl ?_
    refine rd_op (v := .fs true [vi x0]) (ov_bslice rfl (all_cons rfl all_nil)) ?_
    have e6 : (tSl tI).R ([x0] : List Int) (.fs true [vi x0]) := sl_fs ⟨rfl, trivial⟩ (by simp)
    obtain ⟨a5, d5, b5⟩ := src_of (t := tI) (h := e3) e6
    have d7 : fits (a0.length + a5.length) 8 = true := by rw [All2.length_eq a8, All2.length_eq b5]; (try simp only [List.length_cons, List.length_nil]); exact fits_of (by first | omega | (simp only [List.length_append, List.length_cons, List.length_nil] at *; omega)) (by first | omega | (simp only [List.length_append, List.length_cons, List.length_nil] at *; omega))
    refine rd_appW (k := 3) (es := a0) (news := a5) b6 rfl rfl rfl a9 b4 d5 d7 (fun b1 f1 e0 e2 d2 => ?_)
    have d1 : All2 tI.R (c1 ++ ([x0] : List Int)) (a0 ++ a5) := All2.app a8 b5
    have d8 : (c1 ++ ([x0] : List Int)).length ≤ 4611686018427387904 := by rw [← All2.length_eq d1, List.length_append]; exact fits_len d7
    refine rd_storeO (k := 2) (v := b1) d2 rfl rfl rfl (mem_cnt1 (k := 3) d2 rfl e0) (fun d3 c6 => ?_)
    replace c6 : Mem d3 (⟨.op c9 c5 0, 31, 1, [(.os a6 a7 0 a4)]⟩ :: ⟨.os a6 a7 0 a4, 3, 1, (a1.set (x0).toNat (vi x1))⟩ :: ⟨.op c8 c3 0, 31, 1, [b1]⟩ :: ⟨b1, 3, 1, (a0 ++ a5)⟩ :: R_) := c6
    refine rd_nil ?_
    have d0 : Mem d3 (⟨.op c9 c5 0, 31, 1, [(.os a6 a7 0 a4)]⟩ :: ⟨.os a6 a7 0 a4, 3, 1, (a1.set (x0).toNat (vi x1))⟩ :: ⟨.op c8 c3 0, 31, 1, [b1]⟩ :: ⟨b1, 3, 1, (a0 ++ a5)⟩ :: R_) := (Mem.front (k := 3) (Mem.front (k := 3) (Mem.front (k := 3) (Mem.front (k := 3) c6 rfl) rfl) rfl) rfl)
    subst hres
    exact pn_endX .nil ⟨(.os a6 a7 0 a4), (a1.set (x0).toNat (vi x1)), b1, (a0 ++ a5), Mem.sub d0 (.cons_cons _ (.cons_cons _ (.cons_cons _ (.cons_cons _ (List.Sublist.refl R_))))), e5, rfl, e1, (.inr ⟨_, _, _, rfl⟩), d1, e0, d8, e2, rfl⟩
  · refine rc_skip ?_
    have d6 : Mem h_ (⟨.op c9 c5 0, 31, 1, [(.os a6 a7 0 a4)]⟩ :: ⟨.os a6 a7 0 a4, 3, 1, a1⟩ :: ⟨.op c8 c3 0, 31, 1, [a3]⟩ :: ⟨a3, 3, 1, a0⟩ :: R_) := (Mem.front (k := 3) (Mem.front (k := 3) (Mem.front (k := 3) (Mem.front (k := 3) M_ rfl) rfl) rfl) rfl)
    subst hres
    exact pn_endX .nil ⟨(.os a6 a7 0 a4), a1, a3, a0, Mem.sub d6 (.cons_cons _ (.cons_cons _ (.cons_cons _ (.cons_cons _ (List.Sublist.refl R_))))), a2, rfl, b3, (.inr ⟨_, _, _, rfl⟩), a8, a9, b9, b4, rfl⟩

def RF34 (res : (List Int)) (r : PV) : Prop := (tSl tI).R res r
theorem digraph_distances_L1_ok {S : List Fr} {res : (List Int)} {x0 : List (List Int)} {x1 : Int} {v0 : PV} {a9 a6 a8 a7 : Nat} (hn : x0.length ≤ 1000) (b9 : (List.replicate x0.length (0 : Int)).length = x0.length) (c2 : (List.replicate x0.length (0 : Int)).length ≤ 4611686018427387904) {K0 : (List Int) → (List Int)}
    (c4 : ∀ {a0 : List Int} {a2 : List PV} (a5 : All2 tI.R a0 a2) (a3 : a0.length = x0.length) (a4 : a0.length ≤ 4611686018427387904) (c6 : NB a0 (x0.length : Int)) {h : Heap} (M0 : Mem h [⟨.op a8 a7 0, 31, 1, [.os a9 a6 0 x0.length]⟩, ⟨.os a9 a6 0 x0.length, 3, 1, a2⟩]), K0 a0 = res → PX Try.prog 0 S (QR Try.prog [(4, none)] (RF34 res)) [(0, v0), (1, vi x1), (5, .op a8 a7 0)] h) :
    ∀ {m : Nat} {a1 : Int} {a0 : List Int} {a2 : List PV} (a5 : All2 tI.R a0 a2) (a3 : a0.length = x0.length) (a4 : a0.length ≤ 4611686018427387904) (c3 : m = Int.toNat (((List.replicate x0.length (0 : Int)).length : Int) - a1)) (b5 : 0 ≤ a1) (b1 : NB a0 a1) (b0 : a1 ≤ (x0.length : Int)) {h : Heap} (M0 : Mem h [⟨.op a8 a7 0, 31, 1, [.os a9 a6 0 x0.length]⟩, ⟨.os a9 a6 0 x0.length, 3, 1, a2⟩]), digraph_distances_L1 K0 m a1 a0 = res → RC Try.prog (.loop ac34_L1) S (QR Try.prog [(4, none)] (RF34 res)) [(18, vi a1), (17, vi ((List.replicate x0.length (0 : Int)).length : Int)), (5, .op a8 a7 0), (1, vi x1), (0, v0)] h := by
  intro m
  induction m with
  | zero =>
    intro a1 a0 a2 a5 a3 a4 c3 b5 b1 b0 h M0 hres
    rw [digraph_distances_L1] at hres
    refine rc_loop ?_
    refine sR ?_
    refine bN i_lss rfl rfl ?_
    refine nS ?_
    refine rc_seq ?_
    refine rc_cond rfl ?_ ?_ <;> intro c <;> try simp only [qa, qaD] at c
    · omega
    refine rc_exit ?_
    refine px_seq ?_
    refine px_again ?_
    exact wP (c4 a5 a3 a4 (by exact NB.mono (by assumption) (by omega)) (Mem.sub M0 (.cons_cons _ (.cons_cons _ .slnil))) hres) rfl
  | succ m ih =>
    intro a1 a0 a2 a5 a3 a4 c3 b5 b1 b0 h M0 hres
    rw [digraph_distances_L1] at hres
    refine rc_loop ?_
    refine sR ?_
    refine bN i_lss rfl rfl ?_
    refine nS ?_
    refine rc_seq ?_
    refine rc_cond rfl ?_ ?_ <;> intro c <;> try simp only [qa, qaD] at c
    rotate_left
    · omega
    refine rc_skip ?_
    refine pn_seq ?_
    refine rc_seq ?_
    refine rc_block ?_
    refine sR ?_
    refine mV rfl ?_
    refine mV rfl ?_
    refine nS ?_
    refine rc_region ?_
    refine rd_op (ov_load0 (k := 0) M0 rfl rfl (mem_one (k := 1) M0 rfl rfl).2) ?_
    refine mV rfl ?_
    have b2 : 0 ≤ a1 := (by first | omega | first | (have hk := QI.at iv2_0 (i := x9_) (by omega) (by omega); omega) | (have hk := en111 (by assumption); omega) | (have hk := qi_pre iv3_0 iv3_1 (i := x9_) (by omega) (by omega); omega))
    have b8 : a1 < (a0.length : Int) := (by first | omega | first | (have hk := QI.at iv2_0 (i := x9_) (by omega) (by omega); omega) | (have hk := en111 (by assumption); omega) | (have hk := qi_pre iv3_0 iv3_1 (i := x9_) (by omega) (by omega); omega))
    refine rd_op (ov_iaddr rfl rfl (n_idx 1 b2 (by omega))) ?_
    refine rd_setO (k := 1) (v := vi (-1)) M0 rfl rfl rfl (by rw [All2.length_eq a5]; omega) rfl (fun c5 b6 => ?_)
    have b7 := All2.set (i := (a1).toNat) a5 (show tI.R (-1) (vi (-1)) from rfl)
    have b4 : (a0.set (a1).toNat (-1)).length ≤ 4611686018427387904 := by simp only [List.length_set]; exact a4
    have b3 : (a0.set (a1).toNat (-1)).length = x0.length := by simp only [List.length_set]; exact a3
    refine rd_nil ?_
    refine pn_blk ?_
    refine pn_seq ?_
    refine rc_region ?_
    refine bN i_add rfl rfl ?_
    refine mV rfl ?_
    refine rd_nil ?_
    refine pn_again ?_
    have hinc : wr (a1 + 1) = a1 + 1 := wr_of (by omega) (by omega)
    erw [hinc]
    exact wC (ih  b7 b3 b4 (by omega) (by omega) (by first | omega | exact NB.next (by assumption) (by omega) (by omega)) (by first | omega | exact NB.next (by assumption) (by omega) (by omega)) (Mem.sub b6 (.cons_cons _ (.cons_cons _ .slnil))) hres) rfl

theorem digraph_distances_L3_ok {S : List Fr} {res : (List Int)} {x0 : List (List Int)} {x1 : Int} {b0 : List Int} {g6 : Bool} {b1 : Int} {a1 e5 : List Int} {v0 : PV} {e8 : List PV} {e3 : PV} {f4 : List PV} {e2 g3 : PV} {c7 c9 c5 c6 h3 : Nat} (r0 : (tSl (tSl tI)).R x0 v0) (hn : x0.length ≤ 1000) (j5 : (List.replicate x0.length (0 : Int)).length = x0.length) (j3 : (List.replicate x0.length (0 : Int)).length ≤ 4611686018427387904) (f5 : b0.length = x0.length) (f6 : b0.length ≤ 4611686018427387904) (g9 : NB b0 (x0.length : Int)) (j2 : digraph_node x0 x1 = g6) (g0 : (!g6) = false) (i6 : ([x1] : List Int).length = 1) (i7 : ([x1] : List Int).length ≤ 4611686018427387904) (h1 : 0 ≤ x1) (h5 : x1 < (b0.length : Int)) (i9 : (b0.set (x1).toNat 0).length ≤ 4611686018427387904) (i4 : (b0.set (x1).toNat 0).length = x0.length) (j0 : isL e3 = true) (h0 : Wri e3 e8) (h7 : a1.length ≤ 4611686018427387904) (j4 : isL e2 = true) (h4 : Wri e2 f4) (i1 : e5.length ≤ 4611686018427387904) (c3 : QI x0.length e5 a1) (i8 : 0 ≤ b1) (f9 : (decide (b1 < (a1.length : Int))) = true) (j1 : a1.length = h3) (h8 : 0 ≤ b1) (h9 : b1 < (a1.length : Int)) (f1 : (tSl tI).R (ix x0 (ix a1 b1)) g3) {K4 : (List Int) → (List Int) → (List Int)}
    (j9 : ∀ {a2 a0 : List Int} {a5 : List PV} {a3 : PV} {a4 : List PV} {a7 : PV} (b8 : All2 tI.R a2 a5) (b6 : isL a3 = true) (b2 : Wri a3 a5) (b5 : a2.length ≤ 4611686018427387904) (a9 : All2 tI.R a0 a4) (b7 : isL a7 = true) (b4 : Wri a7 a4) (b3 : a0.length ≤ 4611686018427387904) (k3 : QI x0.length a0 a2) {h : Heap} (M0 : Mem h [⟨.op c5 c6 0, 31, 1, [a3]⟩, ⟨a3, 3, 1, a5⟩, ⟨.op c7 c9 0, 31, 1, [a7]⟩, ⟨a7, 3, 1, a4⟩]), K4 a2 a0 = res → PX Try.prog 4 S (QR Try.prog [(4, none)] (RF34 res)) [(0, v0), (5, .op c7 c9 0), (7, .op c5 c6 0), (8, .fn (.func 43) [] [.op c7 c9 0, .op c5 c6 0]), (9, vi b1)] h) :
    ∀ {m : Nat} {b9 : Int} {a2 a0 : List Int} {a5 : List PV} {a3 : PV} {a4 : List PV} {a7 : PV} (b8 : All2 tI.R a2 a5) (b6 : isL a3 = true) (b2 : Wri a3 a5) (b5 : a2.length ≤ 4611686018427387904) (a9 : All2 tI.R a0 a4) (b7 : isL a7 = true) (b4 : Wri a7 a4) (b3 : a0.length ≤ 4611686018427387904) (j6 : m = Int.toNat (((ix x0 (ix a1 b1)).length : Int) - b9)) (g5 : 0 ≤ b9) (a6 : QI x0.length a0 a2) (a8 : a1 <+: a2) {h : Heap} (M0 : Mem h [⟨.op c5 c6 0, 31, 1, [a3]⟩, ⟨a3, 3, 1, a5⟩, ⟨.op c7 c9 0, 31, 1, [a7]⟩, ⟨a7, 3, 1, a4⟩]), digraph_distances_L3 x0 b1 a1 K4 m b9 a2 a0 = res → RC Try.prog (.loop ac34_L3) S (QR Try.prog [(4, none)] (RF34 res)) [(51, vi b9), (50, vi ((ix x0 (ix a1 b1)).length : Int)), (49, g3), (10, vi (ix a1 b1)), (9, vi b1), (8, .fn (.func 43) [] [.op c7 c9 0, .op c5 c6 0]), (7, .op c5 c6 0), (5, .op c7 c9 0), (0, v0)] h := by
  have f3 := g0
  try simp only [qa, qaD] at f3
  have e7 := f9
  try simp only [qa, qaD] at e7
  intro m
  induction m with
  | zero =>
    intro b9 a2 a0 a5 a3 a4 a7 b8 b6 b2 b5 a9 b7 b4 b3 j6 g5 a6 a8 h M0 hres
    rw [digraph_distances_L3] at hres
    refine rc_loop ?_
    refine sR ?_
    refine bN i_lss rfl rfl ?_
    refine nS ?_
    refine rc_seq ?_
    refine rc_cond rfl ?_ ?_ <;> intro c <;> try simp only [qa, qaD] at c
    · omega
    refine rc_exit ?_
    refine px_seq ?_
    refine px_again ?_
    exact wP (j9 b8 b6 b2 b5 a9 b7 b4 b3 (by assumption) (Mem.sub M0 (.cons_cons _ (.cons_cons _ (.cons_cons _ (.cons_cons _ .slnil))))) hres) rfl
  | succ m ih =>
    intro b9 a2 a0 a5 a3 a4 a7 b8 b6 b2 b5 a9 b7 b4 b3 j6 g5 a6 a8 h M0 hres
    rw [digraph_distances_L3] at hres
    refine rc_loop ?_
    refine sR ?_
    refine bN i_lss rfl rfl ?_
    refine nS ?_
    refine rc_seq ?_
    refine rc_cond rfl ?_ ?_ <;> intro c <;> try simp only [qa, qaD] at c
    rotate_left
    · omega
    refine rc_skip ?_
    refine pn_seq ?_
    refine rc_seq ?_
    refine rc_block ?_
    refine sR ?_
    refine rd_op (ov_iaddr rfl rfl (slI f1 (by first | omega | first | (have hk := QI.at c3 (i := b1) (by omega) (by omega); omega) | (have hk := en111 (by assumption); omega) | (have hk := qi_pre a6 a8 (i := b1) (by omega) (by omega); omega)) (by first | omega | first | (have hk := QI.at c3 (i := b1) (by omega) (by omega); omega) | (have hk := en111 (by assumption); omega) | (have hk := qi_pre a6 a8 (i := b1) (by omega) (by omega); omega)))) ?_
    refine lR rfl rfl rfl ?_
    refine mV rfl ?_
    refine nR ?_
    refine mV rfl ?_
    refine mV rfl ?_
    obtain ⟨j8, e4, hres⟩ := let_ex hres
    have g1 := f33_ok (x1 := (ix (ix x0 (ix a1 b1)) b9)) r0 
    rw [e4] at g1
    have c2 := node_use e4
    refine cL g1 rfl rfl (clL_cons (TR.clo (tSl (tSl tI)) r0) (clL_cons rfl clL_nil)) ?_
    refine nS ?_
    refine rc_br hres rfl ?_ ?_ <;> clear hres <;> intro c hres <;> try simp only [qa, qaD] at c
    · refine rc_regionS ?_
      refine rs_step ?_
      refine mV rfl ?_
      refine rs_back ?_
      refine rs_step ?_
      refine mV rfl ?_
      refine rs_back ?_
      refine rs_step ?_
      refine rd_op (ov_load0 (k := 2) M0 rfl rfl (mem_one (k := 3) M0 rfl b7).2) ?_
      refine rs_back ?_
      refine rs_step ?_
      refine mV rfl ?_
      refine rs_back ?_
      refine rs_step ?_
      obtain ⟨g8, g7, f2, g2⟩ := wri_os (i := (ix a1 b1)) b4 a9 (by first | omega | first | (have hk := QI.at c3 (i := b1) (by omega) (by omega); omega) | (have hk := en111 (by assumption); omega) | (have hk := qi_pre a6 a8 (i := b1) (by omega) (by omega); omega)) (by first | omega | first | (have hk := QI.at c3 (i := b1) (by omega) (by omega); omega) | (have hk := en111 (by assumption); omega) | (have hk := qi_pre a6 a8 (i := b1) (by omega) (by omega); omega))
      subst g2
      have j7 : a0.length = f2 := by rw [mem_osn M0 (k := 3) rfl, All2.length_eq a9]
      have e0 : 0 ≤ (ix a1 b1) := (by first | omega | first | (have hk := QI.at c3 (i := b1) (by omega) (by omega); omega) | (have hk := en111 (by assumption); omega) | (have hk := qi_pre a6 a8 (i := b1) (by omega) (by omega); omega))
      have f0 : (ix a1 b1) < (a0.length : Int) := (by first | omega | first | (have hk := QI.at c3 (i := b1) (by omega) (by omega); omega) | (have hk := en111 (by assumption); omega) | (have hk := qi_pre a6 a8 (i := b1) (by omega) (by omega); omega))
      refine rd_op (ov_iaddr rfl rfl (n_idx 1 e0 (by omega))) ?_
      refine rs_back ?_
      refine rs_step ?_
      obtain ⟨i0, h6, e9⟩ := elem_at (i := (ix a1 b1)) a9 e0 f0
      have e9 : i0 = vi (ix a0 (ix a1 b1)) := e9; subst e9
      refine rd_op (ov_elem (k := 3) M0 rfl rfl h6 rfl) ?_
      refine rs_back ?_
      refine rs_step ?_
      refine bN i_add rfl rfl ?_
      refine rs_back ?_
      have i2 : Mem h [⟨.op c7 c9 0, 31, 1, [(.os g8 g7 0 f2)]⟩, ⟨.os g8 g7 0 f2, 3, 1, a4⟩, ⟨.op c5 c6 0, 31, 1, [a3]⟩, ⟨a3, 3, 1, a5⟩] := (Mem.front (k := 3) (Mem.front (k := 3) (Mem.front (k := 1) (Mem.front (k := 1) M0 rfl) rfl) rfl) rfl)
      obtain ⟨k0, g4, hres⟩ := let_ex hres
      obtain ⟨i5, h2, f8, e6⟩ := f43_ok (x0 := (ix (ix x0 (ix a1 b1)) b9)) (x1 := (wr ((ix a0 (ix a1 b1)) + 1))) (c0 := a0) (c1 := a2) a9 rfl b3 (.inr ⟨_, _, _, rfl⟩) b8 b6 b5 b2 i2 (by first | (have hk := c2 (by assumption); have hl := QI.len a6; omega) | (have hk := QI.qlen a6; omega)) (by first | (have hk := c2 (by assumption); have hl := QI.len a6; omega) | (have hk := QI.qlen a6; omega))
      rw [g4] at e6
      obtain ⟨c4, d4, c8, d1, i3, d6, d7, d5, d9, d3, d2, d0, d8, e1⟩ := e6
      replace e1 := e1.symm; subst e1
      refine rs_callXc rfl rfl f8 ?_
      refine rs_nil ?_
      refine pn_blk ?_
      refine pn_seq ?_
      refine rc_region ?_
      refine bN i_add rfl rfl ?_
      refine mV rfl ?_
      refine rd_nil ?_
      have f7 : Mem h2 [⟨.op c5 c6 0, 31, 1, [c8]⟩, ⟨c8, 3, 1, d1⟩, ⟨.op c7 c9 0, 31, 1, [c4]⟩, ⟨c4, 3, 1, d4⟩] := (Mem.front (k := 3) (Mem.front (k := 3) (Mem.front (k := 1) (Mem.front (k := 1) i3 rfl) rfl) rfl) rfl)
      refine pn_again ?_
      have hbd := sl_bound f1
      have hinc : wr (b9 + 1) = b9 + 1 := wr_of (by omega) (by omega)
      erw [hinc]
      exact wC (ih  d3 d2 d8 d0 d6 d7 d9 d5 (by omega) (by omega) (by first | assumption | (have hk := c2 (by assumption); have hp := qi_pre a6 a8 (i := b1) (by omega) (by omega); have hw := wr_of (n := ix a0 (ix a1 b1) + 1) (by omega) (by omega); have hv := QI.visit (d := wr (ix a0 (ix a1 b1) + 1)) a6 hk.1 hk.2 (by omega) (by omega) _ (by assumption); first | exact hv.1 | exact a8.trans hv.2.1)) (by first | assumption | (have hk := c2 (by assumption); have hp := qi_pre a6 a8 (i := b1) (by omega) (by omega); have hw := wr_of (n := ix a0 (ix a1 b1) + 1) (by omega) (by omega); have hv := QI.visit (d := wr (ix a0 (ix a1 b1) + 1)) a6 hk.1 hk.2 (by omega) (by omega) _ (by assumption); first | exact hv.1 | exact a8.trans hv.2.1)) (Mem.sub f7 (.cons_cons _ (.cons_cons _ (.cons_cons _ (.cons_cons _ .slnil))))) hres) rfl
    · refine rc_skip ?_
      refine pn_blk ?_
      refine pn_seq ?_
      refine rc_region ?_
      refine bN i_add rfl rfl ?_
      refine mV rfl ?_
      refine rd_nil ?_
      refine pn_again ?_
      have hbd := sl_bound f1
      have hinc : wr (b9 + 1) = b9 + 1 := wr_of (by omega) (by omega)
      erw [hinc]
      exact wC (ih  b8 b6 b2 b5 a9 b7 b4 b3 (by omega) (by omega) (by first | assumption | (have hk := c2 (by assumption); have hp := qi_pre a6 a8 (i := b1) (by omega) (by omega); have hw := wr_of (n := ix a0 (ix a1 b1) + 1) (by omega) (by omega); have hv := QI.visit (d := wr (ix a0 (ix a1 b1) + 1)) a6 hk.1 hk.2 (by omega) (by omega) _ (by assumption); first | exact hv.1 | exact a8.trans hv.2.1)) (by first | assumption | (have hk := c2 (by assumption); have hp := qi_pre a6 a8 (i := b1) (by omega) (by omega); have hw := wr_of (n := ix a0 (ix a1 b1) + 1) (by omega) (by omega); have hv := QI.visit (d := wr (ix a0 (ix a1 b1) + 1)) a6 hk.1 hk.2 (by omega) (by omega) _ (by assumption); first | exact hv.1 | exact a8.trans hv.2.1)) (Mem.sub M0 (.cons_cons _ (.cons_cons _ (.cons_cons _ (.cons_cons _ .slnil))))) hres) rfl

theorem digraph_distances_L2_ok {S : List Fr} {res : (List Int)} {x0 : List (List Int)} {x1 : Int} {a0 : List Int} {g0 : Bool} {v0 : PV} {c9 d4 d6 d7 : Nat} (r0 : (tSl (tSl tI)).R x0 v0) (hn : x0.length ≤ 1000) (g1 : (List.replicate x0.length (0 : Int)).length = x0.length) (f9 : (List.replicate x0.length (0 : Int)).length ≤ 4611686018427387904) (c4 : a0.length = x0.length) (c5 : a0.length ≤ 4611686018427387904) (d5 : NB a0 (x0.length : Int)) (f6 : digraph_node x0 x1 = g0) (d9 : (!g0) = false) (f2 : ([x1] : List Int).length = 1) (f3 : ([x1] : List Int).length ≤ 4611686018427387904) (e2 : 0 ≤ x1) (e4 : x1 < (a0.length : Int)) (f4 : (a0.set (x1).toNat 0).length ≤ 4611686018427387904) (f1 : (a0.set (x1).toNat 0).length = x0.length) {K2 : (List Int) → (List Int) → (List Int)}
    (g9 : ∀ {a1 a8 : List Int} {a2 : List PV} {a5 : PV} {a3 : List PV} {a4 : PV} (a7 : All2 tI.R a1 a2) (a6 : isL a5 = true) (b0 : Wri a5 a2) (b2 : a1.length ≤ 4611686018427387904) (b6 : All2 tI.R a8 a3) (b5 : isL a4 = true) (b1 : Wri a4 a3) (b3 : a8.length ≤ 4611686018427387904) {h : Heap} (M0 : Mem h [⟨.op d6 d7 0, 31, 1, [a5]⟩, ⟨a5, 3, 1, a2⟩, ⟨.op c9 d4 0, 31, 1, [a4]⟩, ⟨a4, 3, 1, a3⟩]), K2 a1 a8 = res → PX Try.prog 2 S (QR Try.prog [(4, none)] (RF34 res)) [(5, .op c9 d4 0)] h) :
    ∀ {m : Nat} {b4 : Int} {a1 a8 : List Int} {a2 : List PV} {a5 : PV} {a3 : List PV} {a4 : PV} (a7 : All2 tI.R a1 a2) (a6 : isL a5 = true) (b0 : Wri a5 a2) (b2 : a1.length ≤ 4611686018427387904) (b6 : All2 tI.R a8 a3) (b5 : isL a4 = true) (b1 : Wri a4 a3) (b3 : a8.length ≤ 4611686018427387904) (h0 : (x0.length : Int) - b4 ≤ (m : Int)) (a9 : QI x0.length a8 a1) (c7 : 0 ≤ b4) {h : Heap} (M0 : Mem h [⟨.op d6 d7 0, 31, 1, [a5]⟩, ⟨a5, 3, 1, a2⟩, ⟨.op c9 d4 0, 31, 1, [a4]⟩, ⟨a4, 3, 1, a3⟩]), digraph_distances_L2 x0 K2 m b4 a1 a8 = res → RC Try.prog (.loop ac34_L2) S (QR Try.prog [(4, none)] (RF34 res)) [(9, vi b4), (8, .fn (.func 43) [] [.op c9 d4 0, .op d6 d7 0]), (7, .op d6 d7 0), (5, .op c9 d4 0), (0, v0)] h := by
  have e8 := d9
  try simp only [qa, qaD] at e8
  intro m
  induction m with
  | zero =>
    intro b4 a1 a8 a2 a5 a3 a4 a7 a6 b0 b2 b6 b5 b1 b3 h0 a9 c7 h M0 hres
    rw [digraph_distances_L2] at hres
    refine rc_loop ?_
    refine rc_seq ?_
    refine sR ?_
    refine mV rfl ?_
    refine rd_op (ov_load0 (k := 0) M0 rfl rfl (mem_one (k := 1) M0 rfl a6).2) ?_
    refine rd_op (ov_bi rfl (own_len (k := 1) M0 rfl Try.underlying31 a6 a7 _)) ?_
    refine bN i_lss rfl rfl ?_
    refine nS ?_
    refine rc_cond rfl (fun d0 => ?_) (fun d0 => ?_)
    · exfalso
      try simp only [qa, qaD] at d0
      (have hk := QI.qlen a9; omega)
    · have hend := hres
      have e5 := d0
      try simp only [qa, qaD] at e5
      refine rc_exit ?_
      refine px_seq ?_
      refine px_again ?_
      exact wP (g9 a7 a6 b0 b2 b6 b5 b1 b3 (Mem.sub M0 (.cons_cons _ (.cons_cons _ (.cons_cons _ (.cons_cons _ .slnil))))) hres) rfl
  | succ m ih =>
    intro b4 a1 a8 a2 a5 a3 a4 a7 a6 b0 b2 b6 b5 b1 b3 h0 a9 c7 h M0 hres
    rw [digraph_distances_L2] at hres
    refine rc_loop ?_
    refine rc_seq ?_
    refine sR ?_
    refine mV rfl ?_
    refine rd_op (ov_load0 (k := 0) M0 rfl rfl (mem_one (k := 1) M0 rfl a6).2) ?_
    refine rd_op (ov_bi rfl (own_len (k := 1) M0 rfl Try.underlying31 a6 a7 _)) ?_
    refine bN i_lss rfl rfl ?_
    refine nS ?_
    refine rc_br hres rfl ?_ ?_ <;> clear hres <;> intro d8 hres <;> have e3 := d8 <;> try simp only [qa, qaD] at e3
    · refine rc_skip ?_
      refine pn_seq ?_
      refine rc_seq ?_
      refine rc_block ?_
      refine sR ?_
      refine rd_op (ov_load0 (k := 0) M0 rfl rfl (mem_one (k := 1) M0 rfl a6).2) ?_
      refine mV rfl ?_
      obtain ⟨h4, h3, g4, g2⟩ := wri_os (i := b4) b0 a7 (by first | omega | first | (have hk := QI.at a9 (i := b4) (by omega) (by omega); omega) | (have hk := en111 (by assumption); omega) | (have hk := qi_pre iv3_0 iv3_1 (i := b4) (by omega) (by omega); omega)) (by first | omega | first | (have hk := QI.at a9 (i := b4) (by omega) (by omega); omega) | (have hk := en111 (by assumption); omega) | (have hk := qi_pre iv3_0 iv3_1 (i := b4) (by omega) (by omega); omega))
      subst g2
      have f5 : a1.length = g4 := by rw [mem_osn M0 (k := 1) rfl, All2.length_eq a7]
      have b7 : 0 ≤ b4 := (by first | omega | first | (have hk := QI.at a9 (i := b4) (by omega) (by omega); omega) | (have hk := en111 (by assumption); omega) | (have hk := qi_pre iv3_0 iv3_1 (i := b4) (by omega) (by omega); omega))
      have c8 : b4 < (a1.length : Int) := (by first | omega | first | (have hk := QI.at a9 (i := b4) (by omega) (by omega); omega) | (have hk := en111 (by assumption); omega) | (have hk := qi_pre iv3_0 iv3_1 (i := b4) (by omega) (by omega); omega))
      refine rd_op (ov_iaddr rfl rfl (n_idx 1 b7 (by omega))) ?_
      obtain ⟨g7, g5, e7⟩ := elem_at (i := b4) a7 b7 c8
      have e7 : g7 = vi (ix a1 b4) := e7; subst e7
      refine rd_op (ov_elem (k := 1) M0 rfl rfl g5 rfl) ?_
      refine mV rfl ?_
      refine nR ?_
      refine mV rfl ?_
      refine mV rfl ?_
      obtain ⟨h2, g8, e6⟩ := sl_idx (i := (ix a1 b4)) r0 (by first | omega | first | (have hk := QI.at a9 (i := b4) (by omega) (by omega); omega) | (have hk := en111 (by assumption); omega) | (have hk := qi_pre iv3_0 iv3_1 (i := b4) (by omega) (by omega); omega)) (by first | omega | first | (have hk := QI.at a9 (i := b4) (by omega) (by omega); omega) | (have hk := en111 (by assumption); omega) | (have hk := qi_pre iv3_0 iv3_1 (i := b4) (by omega) (by omega); omega))
      refine rd_op (ov_iaddr rfl rfl g8) ?_
      refine lD e6 rfl rfl rfl ?_
      refine rd_op (ov_bi rfl (sl_len e6 Try.underlying31 _)) ?_
      refine mI rfl ?_
      refine nS ?_
      refine rc_block ?_
      refine wC (digraph_distances_L3_ok r0 hn g1 f9 c4 c5 d5 f6 d9 f2 f3 e2 e4 f4 f1 a6 b0 b2 b5 b1 b3 a9 c7 d8 f5 b7 c8 e6 ?_  a7 rfl (.inr ⟨_, _, _, rfl⟩) b2 b6 b5 b1 b3 rfl (by omega) (by first | assumption | exact List.prefix_refl _) (by first | assumption | exact List.prefix_refl _) (Mem.sub M0 (.cons_cons _ (.cons_cons _ (.cons_cons _ (.cons_cons _ .slnil))))) hres) rfl
      · intro e0 e1 f0 f7 e9 f8 d3 c6 b9 c3 d1 d2 b8 c2 g3 h1 g6 hres
        refine px_blk ?_
        refine pn_blk ?_
        refine pn_seq ?_
        refine rc_region ?_
        refine mV rfl ?_
        refine bN i_add rfl rfl ?_
        refine mV rfl ?_
        refine rd_nil ?_
        refine pn_again ?_
        exact wC (ih  d3 c6 b9 c3 d1 d2 b8 c2 (by (rw [wr_of (by omega) (by omega)]; omega)) (by first | assumption | (rw [wr_of (by omega) (by omega)]; omega)) (by first | assumption | (rw [wr_of (by omega) (by omega)]; omega)) (Mem.sub g6 (.cons_cons _ (.cons_cons _ (.cons_cons _ (.cons_cons _ .slnil))))) hres) rfl
    · refine rc_exit ?_
      refine px_seq ?_
      refine px_again ?_
      exact wP (g9 a7 a6 b0 b2 b6 b5 b1 b3 (Mem.sub M0 (.cons_cons _ (.cons_cons _ (.cons_cons _ (.cons_cons _ .slnil))))) hres) rfl

theorem f34_ok {x0 : List (List Int)} {x1 : Int} {v0 : PV} (r0 : (tSl (tSl tI)).R x0 v0) (hn : x0.length ≤ 1000) : ∃ r, FnR Try.prog 34 [v0, vi x1] r ∧ (tSl tI).R (digraph_distances x0 x1) r := by
  refine fnT (R := RF34) text34 rfl fun res hres => ?_
  unfold digraph_distances at hres
  refine sR ?_
  refine rd_op (v := nilS) (ov_move rfl) ?_
  refine nR ?_
  refine mV rfl ?_
  refine rd_op (ov_bi rfl (sl_len r0 Try.underlying22 _)) ?_
  have e8 : fits (x0.length) 8 = true := fits_of (by first | omega | (simp only [List.length_append, List.length_cons, List.length_nil] at *; omega)) (by first | omega | (simp only [List.length_append, List.length_cons, List.length_nil] at *; omega))
  refine rd_makeO (sz := 1) (ty := 3) (n := x0.length) (zz := vi 0) (Mem.nil ⟨0, []⟩) rfl rfl rfl rfl rfl e8 (fun a7 a6 g5 g1 => ?_)
  have e1 : All2 tI.R (List.replicate x0.length (0 : Int)) (List.replicate x0.length (vi 0)) := All2.rep (show tI.R (0 : Int) (vi 0) from rfl) _
  have a8 : (List.replicate x0.length (0 : Int)).length = x0.length := List.length_replicate
  have b5 : (List.replicate x0.length (0 : Int)).length ≤ 4611686018427387904 := by rw [a8]; exact fits_len e8
  refine rd_allocO (x := nilS) g1 rfl rfl (fun b9 c3 h1 e9 => ?_)
  refine rd_storeO (k := 0) (v := .os a7 a6 0 x0.length) e9 rfl rfl rfl (mem_cnt1 (k := 1) e9 rfl rfl) (fun f2 b0 => ?_)
  replace b0 : Mem f2 [⟨.op b9 c3 0, 31, 1, [.os a7 a6 0 x0.length]⟩, ⟨.os a7 a6 0 x0.length, 3, 1, (List.replicate x0.length (vi 0))⟩] := b0
  refine nS ?_
  refine rc_seq ?_
  refine sR ?_
  refine rd_op (ov_load0 (k := 0) b0 rfl rfl (mem_one (k := 1) b0 rfl rfl).2) ?_
  refine rd_op (ov_bi rfl (own_len (k := 1) b0 rfl Try.underlying31 rfl e1 _)) ?_
  refine mI rfl ?_
  refine nS ?_
  refine rc_block ?_
  refine wC (digraph_distances_L1_ok hn a8 b5 ?_  e1 a8 b5 rfl (by omega) (by first | omega | exact NB.nil) (by first | omega | exact NB.nil) (Mem.sub b0 (.cons_cons _ (.cons_cons _ .slnil))) hres) rfl
  · intro a0 a4 a2 a3 a1 b8 g3 c2 hres
    refine px_blk ?_
    refine pn_seq ?_
    refine rc_seq ?_
    refine sR ?_
    refine mV rfl ?_
    refine mV rfl ?_
    obtain ⟨g8, b2, hres⟩ := let_ex hres
    have f1 := f33_ok (x1 := x1) r0 
    rw [b2] at f1
    have c8 := node_use b2
    refine cL f1 rfl rfl (clL_cons (TR.clo (tSl (tSl tI)) r0) (clL_cons rfl clL_nil)) ?_
    refine rd_op (ov_not rfl) ?_
    refine nS ?_
    refine rc_br hres rfl ?_ ?_ <;> clear hres <;> intro c4 hres <;> have d2 := c4 <;> try simp only [qa, qaD] at d2
    · refine sR ?_
      refine rd_op (ov_load0 (k := 0) c2 rfl rfl (mem_one (k := 1) c2 rfl rfl).2) ?_
      refine mV rfl ?_
      refine nS ?_
      obtain ⟨g9, f3, f9⟩ := own_sl (P := Try.prog) (k := 1) (t := tI) c2 rfl rfl a2 (Nat.le_trans a1 (by decide))
      subst hres
      exact rc_retV (.tmp rfl .nil) f3 f9
    · refine rc_skip ?_
      refine pn_seq ?_
      refine sR ?_
      refine mV rfl ?_
      refine rd_bslO (vs := [vi x1]) c2 rfl (all_cons rfl all_nil) (fun b6 b7 f6 d0 => ?_)
      have f4 : All2 tI.R ([x1] : List Int) [vi x1] := ⟨rfl, trivial⟩
      have c5 : ([x1] : List Int).length = 1 := rfl
      have c6 : ([x1] : List Int).length ≤ 4611686018427387904 := by rw [c5]; decide
      replace d0 : Mem f6 [⟨.os b6 b7 0 1, 3, 1, [vi x1]⟩, ⟨.op b9 c3 0, 31, 1, [.os a7 a6 0 x0.length]⟩, ⟨.os a7 a6 0 x0.length, 3, 1, a4⟩] := d0
      refine rd_allocO (x := nilS) d0 rfl rfl (fun e3 e4 g4 e5 => ?_)
      refine rd_storeO (k := 0) (v := .os b6 b7 0 1) e5 rfl rfl rfl (mem_cnt1 (k := 1) e5 rfl rfl) (fun f5 b3 => ?_)
      replace b3 : Mem f5 [⟨.op e3 e4 0, 31, 1, [.os b6 b7 0 1]⟩, ⟨.os b6 b7 0 1, 3, 1, [vi x1]⟩, ⟨.op b9 c3 0, 31, 1, [.os a7 a6 0 x0.length]⟩, ⟨.os a7 a6 0 x0.length, 3, 1, a4⟩] := b3
      refine nR ?_
      refine rd_op (v := .fn (.func 43) [] [.op b9 c3 0, .op e3 e4 0]) (ov_mkFunc rfl rfl) ?_
      refine mV rfl ?_
      refine nR ?_
      refine rd_op (ov_load0 (k := 2) b3 rfl rfl (mem_one (k := 3) b3 rfl rfl).2) ?_
      refine mV rfl ?_
      have b1 : 0 ≤ x1 := (by first | omega | first | (have hk := QI.at iv2_0 (i := x9_) (by omega) (by omega); omega) | (have hk := c8 (by assumption); omega) | (have hk := qi_pre iv3_0 iv3_1 (i := x9_) (by omega) (by omega); omega))
      have c9 : x1 < (a0.length : Int) := (by first | omega | first | (have hk := QI.at iv2_0 (i := x9_) (by omega) (by omega); omega) | (have hk := c8 (by assumption); omega) | (have hk := qi_pre iv3_0 iv3_1 (i := x9_) (by omega) (by omega); omega))
      refine rd_op (ov_iaddr rfl rfl (n_idx 1 b1 (by omega))) ?_
      refine rd_setO (k := 3) (v := vi 0) b3 rfl rfl rfl (by rw [All2.length_eq a2]; omega) rfl (fun g6 g2 => ?_)
      have f7 := All2.set (i := (x1).toNat) a2 (show tI.R 0 (vi 0) from rfl)
      have c7 : (a0.set (x1).toNat 0).length ≤ 4611686018427387904 := by simp only [List.length_set]; exact a1
      have e0 : (a0.set (x1).toNat 0).length = x0.length := by simp only [List.length_set]; exact a3
      refine nS ?_
      refine rc_seq ?_
      refine sR ?_
      refine mI rfl ?_
      refine nS ?_
      refine rc_block ?_
      refine wC (digraph_distances_L2_ok r0 hn a8 b5 a3 a1 b8 b2 c4 c5 c6 b1 c9 c7 e0 ?_  f4 rfl (.inr ⟨_, _, _, rfl⟩) c6 f7 rfl (.inr ⟨_, _, _, rfl⟩) c7 (by omega) (by first | omega | exact qi_new (by omega) (by assumption) (by omega) (by omega)) (by first | omega | exact qi_new (by omega) (by assumption) (by omega) (by omega)) (Mem.sub g2 (.cons_cons _ (.cons_cons _ (.cons_cons _ (.cons_cons _ .slnil))))) hres) rfl
      · intro d8 d3 d5 e6 d6 e7 e2 f0 d7 d4 b4 a5 d9 a9 g7 d1 hres
        refine px_blk ?_
        refine pn_seq ?_
        refine sR ?_
        refine rd_op (ov_load0 (k := 2) d1 rfl rfl (mem_one (k := 3) d1 rfl a5).2) ?_
        refine mV rfl ?_
        refine nS ?_
        obtain ⟨h0, f8, g0⟩ := own_sl (P := Try.prog) (k := 3) (t := tI) d1 rfl a5 b4 (Nat.le_trans a9 (by decide))
        subst hres
        exact rc_retV (.tmp rfl .nil) f8 g0

end Go.Proofs.Ytpdimhpjehfjeaa
