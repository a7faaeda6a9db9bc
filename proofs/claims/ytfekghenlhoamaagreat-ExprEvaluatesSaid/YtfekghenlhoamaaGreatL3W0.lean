/-
 The code of each function does what its plain program says.
-/
import Derived.Test.YtfekghenlhoamaaGreatKDef
import Derived.Test.YtfekghenlhoamaaGreatL3Text
import Derived.Test.YtfekghenlhoamaaGreatPbC
import Derived.Test.YtfekghenlhoamaaGreatKPureR
import Derived.Test.YtfekghenlhoamaaGreatL3Run
set_option linter.unusedVariables false
set_option linter.unusedSimpArgs false
set_option maxRecDepth 100000
namespace Go.Proofs.YtfekghenlhoamaaGreat
open Go Go.Pb Go.RowKit
theorem qa1 (a b : Bool) : ((a || b) = true) = (a = true ∨ b = true) := Bool.or_eq_true a b
theorem qa2 (a b : Bool) : (a || b) = false ↔ a = false ∧ b = false := Bool.or_eq_false_iff
theorem qa3 (a b : Bool) : ((a && b) = true) = (a = true ∧ b = true) := Bool.and_eq_true a b
theorem qa4 (a b : Bool) : (a && b) = false ↔ (a = true → b = false) := Bool.and_eq_false_imp
theorem qa5 {p : Prop} [Decidable p] : (decide p = true) = p := decide_eq_true_eq
theorem qa6 {p : Prop} [Decidable p] : decide p = false ↔ ¬p := decide_eq_false_iff_not
theorem qa7 {a : Bool} : ((!a) = true) = (a = false) := Bool.not_eq_true' a
theorem qa8 {a : Bool} : ((!a) = false) = (a = true) := Bool.not_eq_false' a
theorem qa9 (a : Bool) : (¬a = true) = (a = false) := Bool.not_eq_true a
theorem qaA (a : Bool) : (¬a = false) = (a = true) := Bool.not_eq_false a
theorem qaB : (!true) = false := Bool.not_true
theorem qaC : (!false) = true := Bool.not_false
theorem qaD {α : Type} (a b : α) : (a ≠ b) = ¬a = b := ne_eq a b
theorem f4_ok : FnR Tryz.prog 4 [] (vb law13_awake) := run4

/-- (patchbay/patchbaylaw13.Args).scope -/
def RF6 (res : expr_Scope) (r : PV) : Prop := expr_Scope.t.R res r
theorem f6_ok {x0 : law13_Args} {v0 : PV} (r0 : law13_Args.t.R x0 v0) : ∃ r, FnR Tryz.prog 6 [v0] r ∧ expr_Scope.t.R (m1_law13_Args__scope x0) r := by
 obtain ⟨res, hres⟩ : ∃ res, m1_law13_Args__scope x0 = res := ⟨_, rfl⟩
 suffices H : RC Tryz.prog ac6 [] (QR Tryz.prog [(2, some (10, true))] (RF6 res)) (argE 0 [v0]) ⟨0, []⟩ by
  rw [hres]
  exact fnE text6 (by simp) H
 unfold m1_law13_Args__scope at hres
 unfold ac6
 refine rc_seq ?_
 refine rc_region ?_
 refine rd_op (ov_box rfl (TR.cnt law13_Args.t r0)) ?_
 refine rd_allocO (x := .agg [vs [], nilS, nilS, nilS, nilS, nilS, nilS, nilS, nilS, nilS]) (Mem.nil ⟨0, []⟩) rfl rfl (fun i101 w101 h101 M101 => ?_)
 refine rd_nil ?_
 refine pn_seq ?_
 refine rc_seq ?_
 refine rc_region ?_
 obtain ⟨v103, e103, r103⟩ := law13_Args.g_P r0
 refine rd_op (ov_faddr rfl e103) ?_
 refine rd_op (ov_load rfl (TR.cnt api_Program.t r103) (TR.agg api_Program.t r103)) ?_
 obtain ⟨v104, e104, r104⟩ := law13_Args.g_Params r0
 refine rd_op (ov_faddr rfl e104) ?_
 refine rd_op (ov_load rfl (TR.cnt (tSl api_Field.t) r104) (TR.agg (tSl api_Field.t) r104)) ?_
 obtain ⟨v105_c1, v105_c2, v105_c3, v105_c4, v105_c5, v105_c6, v105_c7, v105_c8, e105, r105_c1, r105_c2, r105_c3, r105_c4, r105_c5, r105_c6, r105_c7, r105_c8⟩ := r103
 subst e105
 refine rd_op (v := .agg [vs x0.P.Name, v105_c1, v105_c2, v105_c3, v105_c4, v105_c5, v105_c6, v105_c7, v105_c8, v104]) (ov_build (cs := [vs x0.P.Name, v105_c1, v105_c2, v105_c3, v105_c4, v105_c5, v105_c6, v105_c7, v105_c8, v104]) rfl (by simp only [buildV, cells_one (TR.cnt (tSl api_Field.t) r104) (TR.agg (tSl api_Field.t) r104)]; rfl)) ?_
 refine rd_storeO (k := 0) (v := .agg [vs x0.P.Name, v105_c1, v105_c2, v105_c3, v105_c4, v105_c5, v105_c6, v105_c7, v105_c8, v104]) M101 rfl rfl rfl rfl (fun h106 M106 => ?_)
 replace M106 : Mem h106 [⟨.op i101 w101 0, 45, 10, [.agg [vs x0.P.Name, v105_c1, v105_c2, v105_c3, v105_c4, v105_c5, v105_c6, v105_c7, v105_c8, v104]]⟩] := M106
 refine rd_nil ?_
 refine pn_seq ?_
 subst hres
 exact rc_retV (.cell rfl (load_whole (k := 0) M106 rfl rfl) .nil) (deep_closed (TR.clo expr_Scope.t (show expr_Scope.t.R ({ Program := x0.P, Params := x0.Params } : expr_Scope) (.agg [vs x0.P.Name, v105_c1, v105_c2, v105_c3, v105_c4, v105_c5, v105_c6, v105_c7, v105_c8, v104]) from ⟨v105_c1, v105_c2, v105_c3, v105_c4, v105_c5, v105_c6, v105_c7, v105_c8, v104, rfl, r105_c1, r105_c2, r105_c3, r105_c4, r105_c5, r105_c6, r105_c7, r105_c8, r104⟩))) (show expr_Scope.t.R ({ Program := x0.P, Params := x0.Params } : expr_Scope) (.agg [vs x0.P.Name, v105_c1, v105_c2, v105_c3, v105_c4, v105_c5, v105_c6, v105_c7, v105_c8, v104]) from ⟨v105_c1, v105_c2, v105_c3, v105_c4, v105_c5, v105_c6, v105_c7, v105_c8, v104, rfl, r105_c1, r105_c2, r105_c3, r105_c4, r105_c5, r105_c6, r105_c7, r105_c8, r104⟩)

/-- patchbay/expr.arity -/
def RF19 (res : Int) (r : PV) : Prop := r = vi res
theorem f19_ok {x0 : Int} : FnR Tryz.prog 19 [vi x0] (vi (expr_arity x0)) := by
 obtain ⟨res, hres⟩ : ∃ res, expr_arity x0 = res := ⟨_, rfl⟩
 suffices H : RC Tryz.prog ac19 [] (QR Tryz.prog [(2, none)] (RF19 res)) (argE 0 [vi x0]) ⟨0, []⟩ by
  obtain ⟨r, h1, h2⟩ := fnE text19 (by simp) H
  rw [hres]
  have h2 : r = vi res := h2
  rw [← h2]; exact h1
 unfold expr_arity at hres
 unfold ac19
 refine rc_seq ?_
 refine rc_region ?_
 refine rd_op (v := vi 0) (ov_move rfl) ?_
 refine rd_nil ?_
 refine pn_seq ?_
 refine rc_seq ?_
 refine rc_seq ?_
 refine rc_region ?_
 refine rd_op (ov_move rfl) ?_
 refine rd_nil ?_
 refine pn_seq ?_
 refine rc_block ?_
 refine rc_seq ?_
 refine rc_seq ?_
 refine rc_region ?_
 refine rd_op (ov_bin rfl rfl i_eql) ?_
 refine rd_op (ov_move rfl) ?_
 refine rd_nil ?_
 refine pn_seq ?_
 obtain ⟨k104, hk104, hres⟩ := let_ex hres
 refine rc_join (F := fun b S Q => ∀ (x4_104 : Bool) (hj104 : Heap) (Mj104 : Mem hj104 []), k104 x4_104 = res → RC Tryz.prog b S Q [(4, vb x4_104), (3, vi x0)] hj104) ?_ ?_
 ·intro x4_104 hj104 Mj104 hres
  rw [← hk104] at hres
  refine rc_cond rfl (fun hc105 => ?_) (fun hc105 => ?_)
  ·replace hres := (ite_t hc105).symm.trans hres
   have hc105' := hc105
   try simp only [qa1, qa2, qa3, qa4, qa5, qa6, qa7, qa8, qa9, qaA, qaB, qaC, qaD] at hc105'
   refine rc_seq ?_
   refine rc_region ?_
   refine rd_op (v := vi 0) (ov_move rfl) ?_
   refine rd_nil ?_
   refine pn_seq ?_
   subst hres
   exact rc_retV (.tmp rfl .nil) (deep_closed rfl) rfl
  ·replace hres := (ite_f hc105).symm.trans hres
   have hc105' := hc105
   try simp only [qa1, qa2, qa3, qa4, qa5, qa6, qa7, qa8, qa9, qaA, qaB, qaC, qaD] at hc105'
   refine rc_seq ?_
   refine rc_seq ?_
   refine rc_region ?_
   refine rd_op (ov_bin rfl rfl i_eql) ?_
   refine rd_op (ov_move rfl) ?_
   refine rd_nil ?_
   refine pn_seq ?_
   obtain ⟨k109, hk109, hres⟩ := let_ex hres
   refine rc_join (F := fun b S Q => ∀ (x9_109 : Bool) (hj109 : Heap) (Mj109 : Mem hj109 []), k109 x9_109 = res → RC Tryz.prog b S Q [(9, vb x9_109), (3, vi x0)] hj109) ?_ ?_
   ·intro x9_109 hj109 Mj109 hres
    rw [← hk109] at hres
    refine rc_cond rfl (fun hc110 => ?_) (fun hc110 => ?_)
    ·replace hres := (ite_t hc110).symm.trans hres
     have hc110' := hc110
     try simp only [qa1, qa2, qa3, qa4, qa5, qa6, qa7, qa8, qa9, qaA, qaB, qaC, qaD] at hc110'
     refine rc_seq ?_
     refine rc_region ?_
     refine rd_op (v := vi 1) (ov_move rfl) ?_
     refine rd_nil ?_
     refine pn_seq ?_
     subst hres
     exact rc_retV (.tmp rfl .nil) (deep_closed rfl) rfl
    ·replace hres := (ite_f hc110).symm.trans hres
     have hc110' := hc110
     try simp only [qa1, qa2, qa3, qa4, qa5, qa6, qa7, qa8, qa9, qaA, qaB, qaC, qaD] at hc110'
     refine rc_seq ?_
     refine rc_seq ?_
     refine rc_region ?_
     refine rd_op (ov_bin rfl rfl i_eql) ?_
     refine rd_op (ov_move rfl) ?_
     refine rd_nil ?_
     refine pn_seq ?_
     obtain ⟨k118, hk118, hres⟩ := let_ex hres
     refine rc_join (F := fun b S Q => ∀ (x14_118 : Bool) (hj118 : Heap) (Mj118 : Mem hj118 []), k118 x14_118 = res → RC Tryz.prog b S Q [(14, vb x14_118), (3, vi x0)] hj118) ?_ ?_
     ·intro x14_118 hj118 Mj118 hres
      rw [← hk118] at hres
      refine rc_cond rfl (fun hc119 => ?_) (fun hc119 => ?_)
      ·replace hres := (ite_t hc119).symm.trans hres
       have hc119' := hc119
       try simp only [qa1, qa2, qa3, qa4, qa5, qa6, qa7, qa8, qa9, qaA, qaB, qaC, qaD] at hc119'
       refine rc_seq ?_
       refine rc_region ?_
       refine rd_op (v := vi 2) (ov_move rfl) ?_
       refine rd_nil ?_
       refine pn_seq ?_
       subst hres
       exact rc_retV (.tmp rfl .nil) (deep_closed rfl) rfl
      ·replace hres := (ite_f hc119).symm.trans hres
       have hc119' := hc119
       try simp only [qa1, qa2, qa3, qa4, qa5, qa6, qa7, qa8, qa9, qaA, qaB, qaC, qaD] at hc119'
       refine rc_seq ?_
       refine rc_region ?_
       refine rd_op (ov_bin rfl rfl i_eql) ?_
       refine rd_op (ov_move rfl) ?_
       refine rd_nil ?_
       refine pn_seq ?_
       refine rc_cond rfl (fun hc120 => ?_) (fun hc120 => ?_)
       ·replace hres := (ite_t hc120).symm.trans hres
        have hc120' := hc120
        try simp only [qa1, qa2, qa3, qa4, qa5, qa6, qa7, qa8, qa9, qaA, qaB, qaC, qaD] at hc120'
        refine rc_seq ?_
        refine rc_region ?_
        refine rd_op (v := vi 3) (ov_move rfl) ?_
        refine rd_nil ?_
        refine pn_seq ?_
        subst hres
        exact rc_retV (.tmp rfl .nil) (deep_closed rfl) rfl
       ·replace hres := (ite_f hc120).symm.trans hres
        have hc120' := hc120
        try simp only [qa1, qa2, qa3, qa4, qa5, qa6, qa7, qa8, qa9, qaA, qaB, qaC, qaD] at hc120'
        refine rc_skip ?_
        refine pn_blk ?_
        refine pn_seq ?_
        refine rc_seq ?_
        refine rc_region ?_
        refine rd_op (v := vi (-1)) (ov_move rfl) ?_
        refine rd_nil ?_
        refine pn_seq ?_
        subst hres
        exact rc_retV (.tmp rfl .nil) (deep_closed rfl) rfl
     ·intro J
      refine rc_cond rfl (fun hc121 => ?_) (fun hc121 => ?_)
      ·replace hres := (ite_t hc121).symm.trans hres
       have hc121' := hc121
       try simp only [qa1, qa2, qa3, qa4, qa5, qa6, qa7, qa8, qa9, qaA, qaB, qaC, qaD] at hc121'
       refine rc_skip ?_
       refine pn_seq (rc_weak ((sub_cons rfl (sub_cons rfl (sub_nil _)))) (J _ _ (Mem.sub Mj109 .slnil) hres))
      ·replace hres := (ite_f hc121).symm.trans hres
       have hc121' := hc121
       try simp only [qa1, qa2, qa3, qa4, qa5, qa6, qa7, qa8, qa9, qaA, qaB, qaC, qaD] at hc121'
       refine rc_seq ?_
       refine rc_region ?_
       refine rd_op (ov_bin rfl rfl i_eql) ?_
       refine rd_op (ov_move rfl) ?_
       refine rd_nil ?_
       refine pn_seq ?_
       refine rc_cond rfl (fun hc122 => ?_) (fun hc122 => ?_)
       ·replace hres := (ite_t hc122).symm.trans hres
        have hc122' := hc122
        try simp only [qa1, qa2, qa3, qa4, qa5, qa6, qa7, qa8, qa9, qaA, qaB, qaC, qaD] at hc122'
        refine rc_skip ?_
        refine pn_seq (rc_weak ((sub_cons rfl (sub_cons rfl (sub_nil _)))) (J _ _ (Mem.sub Mj109 .slnil) hres))
       ·replace hres := (ite_f hc122).symm.trans hres
        have hc122' := hc122
        try simp only [qa1, qa2, qa3, qa4, qa5, qa6, qa7, qa8, qa9, qaA, qaB, qaC, qaD] at hc122'
        refine rc_seq ?_
        refine rc_region ?_
        refine rd_op (ov_bin rfl rfl i_eql) ?_
        refine rd_op (ov_move rfl) ?_
        refine rd_nil ?_
        refine pn_seq ?_
        refine rc_cond rfl (fun hc123 => ?_) (fun hc123 => ?_)
        ·replace hres := (ite_t hc123).symm.trans hres
         have hc123' := hc123
         try simp only [qa1, qa2, qa3, qa4, qa5, qa6, qa7, qa8, qa9, qaA, qaB, qaC, qaD] at hc123'
         refine rc_skip ?_
         refine pn_seq (rc_weak ((sub_cons rfl (sub_cons rfl (sub_nil _)))) (J _ _ (Mem.sub Mj109 .slnil) hres))
        ·replace hres := (ite_f hc123).symm.trans hres
         have hc123' := hc123
         try simp only [qa1, qa2, qa3, qa4, qa5, qa6, qa7, qa8, qa9, qaA, qaB, qaC, qaD] at hc123'
         refine rc_seq ?_
         refine rc_region ?_
         refine rd_op (ov_bin rfl rfl i_eql) ?_
         refine rd_op (ov_move rfl) ?_
         refine rd_nil ?_
         refine pn_seq ?_
         refine rc_cond rfl (fun hc124 => ?_) (fun hc124 => ?_)
         ·replace hres := (ite_t hc124).symm.trans hres
          have hc124' := hc124
          try simp only [qa1, qa2, qa3, qa4, qa5, qa6, qa7, qa8, qa9, qaA, qaB, qaC, qaD] at hc124'
          refine rc_skip ?_
          refine pn_seq (rc_weak ((sub_cons rfl (sub_cons rfl (sub_nil _)))) (J _ _ (Mem.sub Mj109 .slnil) hres))
         ·replace hres := (ite_f hc124).symm.trans hres
          have hc124' := hc124
          try simp only [qa1, qa2, qa3, qa4, qa5, qa6, qa7, qa8, qa9, qaA, qaB, qaC, qaD] at hc124'
          refine rc_seq ?_
          refine rc_region ?_
          refine rd_op (ov_bin rfl rfl i_eql) ?_
          refine rd_op (ov_move rfl) ?_
          refine rd_nil ?_
          refine pn_seq ?_
          refine rc_cond rfl (fun hc125 => ?_) (fun hc125 => ?_)
          ·replace hres := (ite_t hc125).symm.trans hres
           have hc125' := hc125
           try simp only [qa1, qa2, qa3, qa4, qa5, qa6, qa7, qa8, qa9, qaA, qaB, qaC, qaD] at hc125'
           refine rc_skip ?_
           refine pn_seq (rc_weak ((sub_cons rfl (sub_cons rfl (sub_nil _)))) (J _ _ (Mem.sub Mj109 .slnil) hres))
          ·replace hres := (ite_f hc125).symm.trans hres
           have hc125' := hc125
           try simp only [qa1, qa2, qa3, qa4, qa5, qa6, qa7, qa8, qa9, qaA, qaB, qaC, qaD] at hc125'
           refine rc_seq ?_
           refine rc_region ?_
           refine rd_op (ov_bin rfl rfl i_eql) ?_
           refine rd_op (ov_move rfl) ?_
           refine rd_nil ?_
           refine pn_seq ?_
           refine rc_cond rfl (fun hc126 => ?_) (fun hc126 => ?_)
           ·replace hres := (ite_t hc126).symm.trans hres
            have hc126' := hc126
            try simp only [qa1, qa2, qa3, qa4, qa5, qa6, qa7, qa8, qa9, qaA, qaB, qaC, qaD] at hc126'
            refine rc_skip ?_
            refine pn_seq (rc_weak ((sub_cons rfl (sub_cons rfl (sub_nil _)))) (J _ _ (Mem.sub Mj109 .slnil) hres))
           ·replace hres := (ite_f hc126).symm.trans hres
            have hc126' := hc126
            try simp only [qa1, qa2, qa3, qa4, qa5, qa6, qa7, qa8, qa9, qaA, qaB, qaC, qaD] at hc126'
            refine rc_seq ?_
            refine rc_region ?_
            refine rd_op (ov_bin rfl rfl i_eql) ?_
            refine rd_op (ov_move rfl) ?_
            refine rd_nil ?_
            refine pn_seq ?_
            refine rc_cond rfl (fun hc127 => ?_) (fun hc127 => ?_)
            ·replace hres := (ite_t hc127).symm.trans hres
             have hc127' := hc127
             try simp only [qa1, qa2, qa3, qa4, qa5, qa6, qa7, qa8, qa9, qaA, qaB, qaC, qaD] at hc127'
             refine rc_skip ?_
             refine pn_seq (rc_weak ((sub_cons rfl (sub_cons rfl (sub_nil _)))) (J _ _ (Mem.sub Mj109 .slnil) hres))
            ·replace hres := (ite_f hc127).symm.trans hres
             have hc127' := hc127
             try simp only [qa1, qa2, qa3, qa4, qa5, qa6, qa7, qa8, qa9, qaA, qaB, qaC, qaD] at hc127'
             refine rc_region ?_
             refine rd_op (ov_bin rfl rfl i_eql) ?_
             refine rd_op (ov_move rfl) ?_
             refine rd_nil ?_
             refine pn_seq (rc_weak ((sub_cons rfl (sub_cons rfl (sub_nil _)))) (J _ _ (Mem.sub Mj109 .slnil) hres))
   ·intro J
    refine rc_cond rfl (fun hc128 => ?_) (fun hc128 => ?_)
    ·replace hres := (ite_t hc128).symm.trans hres
     have hc128' := hc128
     try simp only [qa1, qa2, qa3, qa4, qa5, qa6, qa7, qa8, qa9, qaA, qaB, qaC, qaD] at hc128'
     refine rc_skip ?_
     refine pn_seq (rc_weak ((sub_cons rfl (sub_cons rfl (sub_nil _)))) (J _ _ (Mem.sub Mj104 .slnil) hres))
    ·replace hres := (ite_f hc128).symm.trans hres
     have hc128' := hc128
     try simp only [qa1, qa2, qa3, qa4, qa5, qa6, qa7, qa8, qa9, qaA, qaB, qaC, qaD] at hc128'
     refine rc_seq ?_
     refine rc_region ?_
     refine rd_op (ov_bin rfl rfl i_eql) ?_
     refine rd_op (ov_move rfl) ?_
     refine rd_nil ?_
     refine pn_seq ?_
     refine rc_cond rfl (fun hc129 => ?_) (fun hc129 => ?_)
     ·replace hres := (ite_t hc129).symm.trans hres
      have hc129' := hc129
      try simp only [qa1, qa2, qa3, qa4, qa5, qa6, qa7, qa8, qa9, qaA, qaB, qaC, qaD] at hc129'
      refine rc_skip ?_
      refine pn_seq (rc_weak ((sub_cons rfl (sub_cons rfl (sub_nil _)))) (J _ _ (Mem.sub Mj104 .slnil) hres))
     ·replace hres := (ite_f hc129).symm.trans hres
      have hc129' := hc129
      try simp only [qa1, qa2, qa3, qa4, qa5, qa6, qa7, qa8, qa9, qaA, qaB, qaC, qaD] at hc129'
      refine rc_seq ?_
      refine rc_region ?_
      refine rd_op (ov_bin rfl rfl i_eql) ?_
      refine rd_op (ov_move rfl) ?_
      refine rd_nil ?_
      refine pn_seq ?_
      refine rc_cond rfl (fun hc130 => ?_) (fun hc130 => ?_)
      ·replace hres := (ite_t hc130).symm.trans hres
       have hc130' := hc130
       try simp only [qa1, qa2, qa3, qa4, qa5, qa6, qa7, qa8, qa9, qaA, qaB, qaC, qaD] at hc130'
       refine rc_skip ?_
       refine pn_seq (rc_weak ((sub_cons rfl (sub_cons rfl (sub_nil _)))) (J _ _ (Mem.sub Mj104 .slnil) hres))
      ·replace hres := (ite_f hc130).symm.trans hres
       have hc130' := hc130
       try simp only [qa1, qa2, qa3, qa4, qa5, qa6, qa7, qa8, qa9, qaA, qaB, qaC, qaD] at hc130'
       refine rc_region ?_
       refine rd_op (ov_bin rfl rfl i_eql) ?_
       refine rd_op (ov_move rfl) ?_
       refine rd_nil ?_
       refine pn_seq (rc_weak ((sub_cons rfl (sub_cons rfl (sub_nil _)))) (J _ _ (Mem.sub Mj104 .slnil) hres))
 ·intro J
  refine rc_cond rfl (fun hc131 => ?_) (fun hc131 => ?_)
  ·replace hres := (ite_t hc131).symm.trans hres
   have hc131' := hc131
   try simp only [qa1, qa2, qa3, qa4, qa5, qa6, qa7, qa8, qa9, qaA, qaB, qaC, qaD] at hc131'
   refine rc_skip ?_
   refine pn_seq (rc_weak ((sub_cons rfl (sub_cons rfl (sub_nil _)))) (J _ _ (Mem.sub (Mem.nil ⟨0, []⟩) .slnil) hres))
  ·replace hres := (ite_f hc131).symm.trans hres
   have hc131' := hc131
   try simp only [qa1, qa2, qa3, qa4, qa5, qa6, qa7, qa8, qa9, qaA, qaB, qaC, qaD] at hc131'
   refine rc_seq ?_
   refine rc_region ?_
   refine rd_op (ov_bin rfl rfl i_eql) ?_
   refine rd_op (ov_move rfl) ?_
   refine rd_nil ?_
   refine pn_seq ?_
   refine rc_cond rfl (fun hc132 => ?_) (fun hc132 => ?_)
   ·replace hres := (ite_t hc132).symm.trans hres
    have hc132' := hc132
    try simp only [qa1, qa2, qa3, qa4, qa5, qa6, qa7, qa8, qa9, qaA, qaB, qaC, qaD] at hc132'
    refine rc_skip ?_
    refine pn_seq (rc_weak ((sub_cons rfl (sub_cons rfl (sub_nil _)))) (J _ _ (Mem.sub (Mem.nil ⟨0, []⟩) .slnil) hres))
   ·replace hres := (ite_f hc132).symm.trans hres
    have hc132' := hc132
    try simp only [qa1, qa2, qa3, qa4, qa5, qa6, qa7, qa8, qa9, qaA, qaB, qaC, qaD] at hc132'
    refine rc_seq ?_
    refine rc_region ?_
    refine rd_op (ov_bin rfl rfl i_eql) ?_
    refine rd_op (ov_move rfl) ?_
    refine rd_nil ?_
    refine pn_seq ?_
    refine rc_cond rfl (fun hc133 => ?_) (fun hc133 => ?_)
    ·replace hres := (ite_t hc133).symm.trans hres
     have hc133' := hc133
     try simp only [qa1, qa2, qa3, qa4, qa5, qa6, qa7, qa8, qa9, qaA, qaB, qaC, qaD] at hc133'
     refine rc_skip ?_
     refine pn_seq (rc_weak ((sub_cons rfl (sub_cons rfl (sub_nil _)))) (J _ _ (Mem.sub (Mem.nil ⟨0, []⟩) .slnil) hres))
    ·replace hres := (ite_f hc133).symm.trans hres
     have hc133' := hc133
     try simp only [qa1, qa2, qa3, qa4, qa5, qa6, qa7, qa8, qa9, qaA, qaB, qaC, qaD] at hc133'
     refine rc_region ?_
     refine rd_op (ov_bin rfl rfl i_eql) ?_
     refine rd_op (ov_move rfl) ?_
     refine rd_nil ?_
     refine pn_seq (rc_weak ((sub_cons rfl (sub_cons rfl (sub_nil _)))) (J _ _ (Mem.sub (Mem.nil ⟨0, []⟩) .slnil) hres))

/-- patchbay/expr.wide -/
def RF65 (res : Int × Int) (r : PV) : Prop := r = .tup [vi res.1, vi res.2]
theorem f65_ok {x0 : Int} : FnR Tryz.prog 65 [vi x0] (.tup [vi ((expr_wide x0).1), vi ((expr_wide x0).2)]) := by
 obtain ⟨res, hres⟩ : ∃ res, expr_wide x0 = res := ⟨_, rfl⟩
 suffices H : RC Tryz.prog ac65 [] (QR Tryz.prog [(2, none), (3, none)] (RF65 res)) (argE 0 [vi x0]) ⟨0, []⟩ by
  obtain ⟨r, h1, h2⟩ := fnE text65 (by simp) H
  rw [hres]
  have h2 : r = .tup [vi res.1, vi res.2] := h2
  rw [← h2]; exact h1
 unfold expr_wide at hres
 unfold ac65
 refine rc_seq ?_
 refine rc_region ?_
 refine rd_op (v := vi 0) (ov_move rfl) ?_
 refine rd_op (v := vi 0) (ov_move rfl) ?_
 refine rd_nil ?_
 refine pn_seq ?_
 refine rc_seq ?_
 refine rc_seq ?_
 refine rc_region ?_
 refine rd_op (ov_move rfl) ?_
 refine rd_op (ov_bin rfl rfl i_lss) ?_
 refine rd_op (ov_move rfl) ?_
 refine rd_cut (d := 9) (v := vb ((decide (x0 < 1)) || (decide (32 < x0)))) ?_ ?_
 ·intro S Q r
  simp only [ac65_G1, List.cons_append, List.nil_append, List.append_assoc]
  cases hb101 : (decide (x0 < 1))
  ·intro k
   have hb101' := hb101
   try simp only [qa1, qa2, qa3, qa4, qa5, qa6, qa7, qa8, qa9, qaA, qaB, qaC, qaD] at hb101'
   refine rd_yes rfl rfl (ov_move rfl) ?_
   refine rd_yes rfl rfl (ov_bin rfl rfl i_gtr) ?_
   refine rd_op (v := vb (decide (32 < x0))) (ov_pick rfl rfl rfl rfl) ?_
   exact rd_weak (sub_cons rfl (sub_skip rfl (sub_skip rfl (sub_skip rfl (sub_refl _))))) k
  ·intro k
   refine rd_skip rfl rfl ?_
   refine rd_skip rfl rfl ?_
   refine rd_op (v := vb true) (ov_pick rfl rfl rfl rfl) ?_
   exact rd_weak (sub_cons rfl (sub_skip rfl (sub_skip rfl (sub_skip rfl (sub_refl _))))) k
 refine rd_nil ?_
 refine pn_seq ?_
 refine rc_cond rfl (fun hc102 => ?_) (fun hc102 => ?_)
 ·replace hres := (ite_t hc102).symm.trans hres
  have hc102' := hc102
  try simp only [qa1, qa2, qa3, qa4, qa5, qa6, qa7, qa8, qa9, qaA, qaB, qaC, qaD] at hc102'
  refine rc_seq ?_
  refine rc_region ?_
  refine rd_op (v := vi 0) (ov_move rfl) ?_
  refine rd_op (v := vi 10) (ov_move rfl) ?_
  refine rd_nil ?_
  refine pn_seq ?_
  subst hres
  exact rc_retV (.tmp rfl (.tmp rfl .nil)) (deep_closed (show closed (.tup _) = true from (clL_cons rfl (clL_cons rfl clL_nil)))) rfl
 ·replace hres := (ite_f hc102).symm.trans hres
  have hc102' := hc102
  try simp only [qa1, qa2, qa3, qa4, qa5, qa6, qa7, qa8, qa9, qaA, qaB, qaC, qaD] at hc102'
  refine rc_skip ?_
  refine pn_seq ?_
  refine rc_seq ?_
  refine rc_region ?_
  refine rd_op (ov_move rfl) ?_
  refine rd_op (ov_move rfl) ?_
  refine rd_op (v := vi 0) (ov_move rfl) ?_
  refine rd_nil ?_
  refine pn_seq ?_
  subst hres
  exact rc_retV (.tmp rfl (.tmp rfl .nil)) (deep_closed (show closed (.tup _) = true from (clL_cons rfl (clL_cons rfl clL_nil)))) rfl

/-- patchbay/bitvec.valid -/
def RF87 (res : Bool) (r : PV) : Prop := r = vb res
theorem bitvec_valid_L1_ok {S : List Fr} {res : Bool} {x0 : List Int} {v0 : PV} (r0 : (tSl tI).R x0 v0) {K0 : Unit → Bool}
  (hK0 : K0 () = res → PX Tryz.prog 0 S (QR Tryz.prog [(2, none)] (RF87 res)) [] ⟨0, []⟩) :
  ∀ (m : Nat) (x7_ : Int) (hm1 : m = Int.toNat ((x0.length : Int) - x7_)) (hlo1 : 0 ≤ x7_), bitvec_valid_L1 x0 K0 m x7_ = res → RC Tryz.prog (.loop ac87_L1) S (QR Tryz.prog [(2, none)] (RF87 res)) [(7, vi x7_), (6, vi (x0.length : Int)), (5, v0)] ⟨0, []⟩ := by
 intro m
 induction m with
 | zero =>
  intro x7_ hm1 hlo1 hres
  rw [bitvec_valid_L1] at hres
  refine rc_loop ?_
  unfold ac87_L1
  refine rc_seq ?_
  refine rc_region ?_
  refine rd_op (ov_bin rfl rfl i_lss) ?_
  refine rd_nil ?_
  refine pn_seq ?_
  refine rc_seq ?_
  refine rc_cond rfl (fun hc101 => ?_) (fun hc101 => ?_)
  ·exfalso
   try simp only [qa1, qa2, qa3, qa4, qa5, qa6, qa7, qa8, qa9, qaA, qaB, qaC, qaD] at hc101
   omega
  ·have hend := hres
   have hc101' := hc101
   try simp only [qa1, qa2, qa3, qa4, qa5, qa6, qa7, qa8, qa9, qaA, qaB, qaC, qaD] at hc101'
   refine rc_exit ?_
   refine px_seq ?_
   refine px_again ?_
   exact px_weak ((sub_nil _)) (hK0  hres)
 | succ m ih =>
  intro x7_ hm1 hlo1 hres
  rw [bitvec_valid_L1] at hres
  refine rc_loop ?_
  unfold ac87_L1
  refine rc_seq ?_
  refine rc_region ?_
  refine rd_op (ov_bin rfl rfl i_lss) ?_
  refine rd_nil ?_
  refine pn_seq ?_
  refine rc_seq ?_
  refine rc_cond rfl (fun hc102 => ?_) (fun hc102 => ?_)
  ·have hgo := hres
   have hc102' := hc102
   try simp only [qa1, qa2, qa3, qa4, qa5, qa6, qa7, qa8, qa9, qaA, qaB, qaC, qaD] at hc102'
   refine rc_skip ?_
   refine pn_seq ?_
   refine rc_seq ?_
   refine rc_block ?_
   refine rc_seq ?_
   refine rc_region ?_
   refine rd_op (ov_iaddr rfl rfl (slI r0 (by omega) (by omega))) ?_
   refine rd_op (ov_load rfl rfl rfl) ?_
   refine rd_op (ov_move rfl) ?_
   refine rd_nil ?_
   refine pn_seq ?_
   refine rc_seq ?_
   refine rc_region ?_
   refine rd_op (ov_move rfl) ?_
   refine rd_op (ov_bin rfl rfl i_lss) ?_
   refine rd_op (ov_move rfl) ?_
   refine rd_cut (d := 16) (v := vb ((decide ((ix x0 x7_) < 1)) || (decide (32 < (ix x0 x7_))))) ?_ ?_
   ·intro S Q r
    simp only [ac87_G1, List.cons_append, List.nil_append, List.append_assoc]
    cases hb103 : (decide ((ix x0 x7_) < 1))
    ·intro k
     have hb103' := hb103
     try simp only [qa1, qa2, qa3, qa4, qa5, qa6, qa7, qa8, qa9, qaA, qaB, qaC, qaD] at hb103'
     refine rd_yes rfl rfl (ov_move rfl) ?_
     refine rd_yes rfl rfl (ov_bin rfl rfl i_gtr) ?_
     refine rd_op (v := vb (decide (32 < (ix x0 x7_)))) (ov_pick rfl rfl rfl rfl) ?_
     exact rd_weak (sub_cons rfl (sub_skip rfl (sub_skip rfl (sub_skip rfl (sub_refl _))))) k
    ·intro k
     refine rd_skip rfl rfl ?_
     refine rd_skip rfl rfl ?_
     refine rd_op (v := vb true) (ov_pick rfl rfl rfl rfl) ?_
     exact rd_weak (sub_cons rfl (sub_skip rfl (sub_skip rfl (sub_skip rfl (sub_refl _))))) k
   refine rd_nil ?_
   refine pn_seq ?_
   refine rc_cond rfl (fun hc104 => ?_) (fun hc104 => ?_)
   ·replace hres := (ite_t hc104).symm.trans hres
    have hc104' := hc104
    try simp only [qa1, qa2, qa3, qa4, qa5, qa6, qa7, qa8, qa9, qaA, qaB, qaC, qaD] at hc104'
    refine rc_seq ?_
    refine rc_region ?_
    refine rd_op (v := vb false) (ov_move rfl) ?_
    refine rd_nil ?_
    refine pn_seq ?_
    subst hres
    exact rc_retV (.tmp rfl .nil) (deep_closed rfl) rfl
   ·replace hres := (ite_f hc104).symm.trans hres
    have hc104' := hc104
    try simp only [qa1, qa2, qa3, qa4, qa5, qa6, qa7, qa8, qa9, qaA, qaB, qaC, qaD] at hc104'
    refine rc_skip ?_
    refine pn_blk ?_
    refine pn_seq ?_
    refine rc_region ?_
    refine rd_op (ov_bin rfl rfl i_add) ?_
    refine rd_op (ov_move rfl) ?_
    refine rd_nil ?_
    refine pn_again ?_
    have hbd := sl_bound r0
    have hinc : wr (x7_ + 1) = x7_ + 1 := wr_of (by omega) (by omega)
    rw [hinc]
    refine rc_weak ?_ (ih (x7_ + 1)  (by omega) (by omega) hres)
    exact ((sub_cons rfl (sub_cons rfl (sub_cons rfl (sub_nil _)))))
  ·exfalso
   try simp only [qa1, qa2, qa3, qa4, qa5, qa6, qa7, qa8, qa9, qaA, qaB, qaC, qaD] at hc102
   omega

theorem f87_ok {x0 : List Int} {v0 : PV} (r0 : (tSl tI).R x0 v0) : FnR Tryz.prog 87 [v0] (vb (bitvec_valid x0)) := by
 obtain ⟨res, hres⟩ : ∃ res, bitvec_valid x0 = res := ⟨_, rfl⟩
 suffices H : RC Tryz.prog ac87 [] (QR Tryz.prog [(2, none)] (RF87 res)) (argE 0 [v0]) ⟨0, []⟩ by
  obtain ⟨r, h1, h2⟩ := fnE text87 (by simp) H
  rw [hres]
  have h2 : r = vb res := h2
  rw [← h2]; exact h1
 unfold bitvec_valid at hres
 unfold ac87
 refine rc_seq ?_
 refine rc_region ?_
 refine rd_op (v := vb false) (ov_move rfl) ?_
 refine rd_nil ?_
 refine pn_seq ?_
 refine rc_seq ?_
 refine rc_seq ?_
 refine rc_region ?_
 refine rd_op (ov_move rfl) ?_
 refine rd_op (ov_bi rfl (sl_len r0 Tryz.underlying29 _)) ?_
 refine rd_op (v := vi 0) (ov_move rfl) ?_
 refine rd_nil ?_
 refine pn_seq ?_
 refine rc_block ?_
 refine rc_weak ?_ (bitvec_valid_L1_ok (x0 := x0) (v0 := v0)  (r0 := r0) ?_ (Int.toNat ((x0.length : Int) - 0)) 0 rfl (by omega) hres)
 ·exact ((sub_cons rfl (sub_cons rfl (sub_cons rfl (sub_nil _)))))
 ·intro  hres
  refine px_blk ?_
  refine pn_seq ?_
  refine rc_seq ?_
  refine rc_region ?_
  refine rd_op (v := vb true) (ov_move rfl) ?_
  refine rd_nil ?_
  refine pn_seq ?_
  subst hres
  exact rc_retV (.tmp rfl .nil) (deep_closed rfl) rfl

/-- patchbay/bitvec.Mask -/
def RF43 (res : (BitVec 32)) (r : PV) : Prop := r = vu32 res
theorem f43_ok {x0 : Int} : FnR Tryz.prog 43 [vi x0] (vu32 (bitvec_Mask x0)) := by
 obtain ⟨res, hres⟩ : ∃ res, bitvec_Mask x0 = res := ⟨_, rfl⟩
 suffices H : RC Tryz.prog ac43 [] (QR Tryz.prog [(2, none)] (RF43 res)) (argE 0 [vi x0]) ⟨0, []⟩ by
  obtain ⟨r, h1, h2⟩ := fnE text43 (by simp) H
  rw [hres]
  have h2 : r = vu32 res := h2
  rw [← h2]; exact h1
 unfold bitvec_Mask at hres
 unfold ac43
 refine rc_seq ?_
 refine rc_region ?_
 refine rd_op (v := vu32 0#32) (ov_move rfl) ?_
 refine rd_nil ?_
 refine pn_seq ?_
 refine rc_seq ?_
 refine rc_seq ?_
 refine rc_region ?_
 refine rd_op (ov_move rfl) ?_
 refine rd_op (v := .fs true [vi x0]) (ov_bslice rfl (all_cons rfl all_nil)) ?_
 have r101 : (tSl tI).R ([x0] : List Int) (.fs true [vi x0]) := sl_fs ⟨rfl, trivial⟩ (by simp)
 obtain ⟨y102, hw102, hres⟩ := let_ex hres
 have f102 := f87_ok  r101 
 rw [hw102] at f102
 refine rd_call (cv_fn rfl rfl (clL_cons (TR.clo (tSl tI) r101) clL_nil) f102) ?_
 refine rd_op (ov_not rfl) ?_
 refine rd_nil ?_
 refine pn_seq ?_
 refine rc_cond rfl (fun hc103 => ?_) (fun hc103 => ?_)
 ·replace hres := (ite_t hc103).symm.trans hres
  have hc103' := hc103
  try simp only [qa1, qa2, qa3, qa4, qa5, qa6, qa7, qa8, qa9, qaA, qaB, qaC, qaD] at hc103'
  refine rc_seq ?_
  refine rc_region ?_
  refine rd_op (v := vu32 0#32) (ov_move rfl) ?_
  refine rd_nil ?_
  refine pn_seq ?_
  subst hres
  exact rc_retV (.tmp rfl .nil) (deep_closed rfl) rfl
 ·replace hres := (ite_f hc103).symm.trans hres
  have hc103' := hc103
  try simp only [qa1, qa2, qa3, qa4, qa5, qa6, qa7, qa8, qa9, qaA, qaB, qaC, qaD] at hc103'
  refine rc_skip ?_
  refine pn_seq ?_
  refine rc_seq ?_
  refine rc_region ?_
  refine rd_op (ov_move rfl) ?_
  refine rd_op (ov_bin rfl rfl i_sub) ?_
  refine rd_op (ov_bin (a := vu32 4294967295#32) (b := vi (wr (32 - x0))) rfl rfl (w_shr (by first | omega | exact mask_sh (by assumption) (by assumption) | (rw [wr_of (by omega) (by omega)]; omega) | (have hk := two_sh (by assumption) (And.left (by assumption)); omega)))) ?_
  refine rd_op (ov_move rfl) ?_
  refine rd_nil ?_
  refine pn_seq ?_
  subst hres
  exact rc_retV (.tmp rfl .nil) (deep_closed rfl) rfl

/-- (patchbay/expr.Scope).field -/
def RF66 (res : api_Field × Bool) (r : PV) : Prop := ∃ c0, r = .tup [c0, vb res.2] ∧ api_Field.t.R res.1 c0
theorem f66_ok {x0 : expr_Scope} {x1 : Int} {x2 : Int} {v0 : PV} (r0 : expr_Scope.t.R x0 v0) : ∃ c0, FnR Tryz.prog 66 [v0, vi x1, vi x2] (.tup [c0, vb ((m1_expr_Scope__field x0 x1 x2).2)]) ∧ api_Field.t.R (m1_expr_Scope__field x0 x1 x2).1 c0 := by
 obtain ⟨res, hres⟩ : ∃ res, m1_expr_Scope__field x0 x1 x2 = res := ⟨_, rfl⟩
 suffices H : RC Tryz.prog ac66 [] (QR Tryz.prog [(6, some (2, true)), (7, none)] (RF66 res)) (argE 0 [v0, vi x1, vi x2]) ⟨0, []⟩ by
  rw [hres]
  obtain ⟨r, h1, c0, rfl, qc0⟩ := fnE text66 (by simp) H
  exact ⟨c0, h1, qc0⟩
 unfold m1_expr_Scope__field at hres
 unfold ac66
 refine rc_seq ?_
 refine rc_region ?_
 refine rd_op (ov_box rfl (TR.cnt expr_Scope.t r0)) ?_
 refine rd_allocO (x := .agg [vs [], vi 0]) (Mem.nil ⟨0, []⟩) rfl rfl (fun i101 w101 h101 M101 => ?_)
 refine rd_op (v := vb false) (ov_move rfl) ?_
 refine rd_nil ?_
 refine pn_seq ?_
 refine rc_seq ?_
 refine rc_region ?_
 obtain ⟨v103, e103, r103⟩ := expr_Scope.g_Program r0
 refine rd_op (ov_faddr rfl e103) ?_
 obtain ⟨v104, e104, r104⟩ := api_Program.g_Metadata r103
 refine rd_op (ov_faddr rfl e104) ?_
 refine rd_op (ov_load rfl (TR.cnt (tSl api_Field.t) r104) (TR.agg (tSl api_Field.t) r104)) ?_
 refine rd_op (ov_move rfl) ?_
 refine rd_nil ?_
 refine pn_seq ?_
 refine rc_seq ?_
 refine rc_seq ?_
 refine rc_region ?_
 refine rd_op (ov_move rfl) ?_
 refine rd_op (ov_bin rfl rfl i_neq) ?_
 refine rd_nil ?_
 refine pn_seq ?_
 obtain ⟨k115, hk115, hres⟩ := let_ex hres
 refine rc_join (F := fun b S Q => ∀ (x8_115 : List api_Field) (u8_115 : PV) (r8_115 : (tSl api_Field.t).R x8_115 u8_115) (hj115 : Heap) (Mj115 : Mem hj115 [⟨.op i101 w101 0, 51, 2, [.agg [vs [], vi 0]]⟩]), k115 x8_115 = res → RC Tryz.prog b S Q [(8, u8_115), (6, .op i101 w101 0), (2, vi x2)] hj115) ?_ ?_
 ·intro x8_115 u8_115 r8_115 hj115 Mj115 hres
  rw [← hk115] at hres
  refine rc_seq ?_
  refine rc_seq ?_
  refine rc_region ?_
  refine rd_op (ov_move rfl) ?_
  refine rd_op (ov_bin rfl rfl i_lss) ?_
  refine rd_op (ov_move rfl) ?_
  refine rd_cut (d := 39) (v := vb ((decide (x2 < 0)) || (decide ((x8_115.length : Int) ≤ x2)))) ?_ ?_
  ·intro S Q r
   simp only [ac66_G2, List.cons_append, List.nil_append, List.append_assoc]
   cases hb116 : (decide (x2 < 0))
   ·intro k
    have hb116' := hb116
    try simp only [qa1, qa2, qa3, qa4, qa5, qa6, qa7, qa8, qa9, qaA, qaB, qaC, qaD] at hb116'
    refine rd_yes rfl rfl (ov_move rfl) ?_
    refine rd_yes rfl rfl (ov_move rfl) ?_
    refine rd_yes rfl rfl (ov_bi rfl (sl_len r8_115 Tryz.underlying23 _)) ?_
    refine rd_yes rfl rfl (ov_bin rfl rfl i_geq) ?_
    refine rd_op (v := vb (decide ((x8_115.length : Int) ≤ x2))) (ov_pick rfl rfl rfl rfl) ?_
    exact rd_weak (sub_cons rfl (sub_skip rfl (sub_skip rfl (sub_skip rfl (sub_skip rfl (sub_skip rfl (sub_refl _))))))) k
   ·intro k
    refine rd_skip rfl rfl ?_
    refine rd_skip rfl rfl ?_
    refine rd_skip rfl rfl ?_
    refine rd_skip rfl rfl ?_
    refine rd_op (v := vb true) (ov_pick rfl rfl rfl rfl) ?_
    exact rd_weak (sub_cons rfl (sub_skip rfl (sub_skip rfl (sub_skip rfl (sub_skip rfl (sub_skip rfl (sub_refl _))))))) k
  refine rd_nil ?_
  refine pn_seq ?_
  refine rc_cond rfl (fun hc117 => ?_) (fun hc117 => ?_)
  ·replace hres := (ite_t hc117).symm.trans hres
   have hc117' := hc117
   try simp only [qa1, qa2, qa3, qa4, qa5, qa6, qa7, qa8, qa9, qaA, qaB, qaC, qaD] at hc117'
   refine rc_seq ?_
   refine rc_region ?_
   refine rd_op (v := .agg [vs [], vi 0]) (ov_build (cs := [vs [], vi 0]) rfl rfl) ?_
   refine rd_storeO (k := 0) (v := .agg [vs [], vi 0]) Mj115 rfl rfl rfl rfl (fun h118 M118 => ?_)
   replace M118 : Mem h118 [⟨.op i101 w101 0, 51, 2, [.agg [vs [], vi 0]]⟩] := M118
   refine rd_op (v := vb false) (ov_move rfl) ?_
   refine rd_nil ?_
   refine pn_seq ?_
   subst hres
   exact rc_retV (.cell rfl (load_whole (k := 0) M118 rfl rfl) (.tmp rfl .nil)) (deep_closed (show closed (.tup _) = true from (clL_cons (TR.clo api_Field.t (show api_Field.t.R ({ Name := ([] : List UInt8), Width := 0 } : api_Field) (.agg [vs [], vi 0]) from rfl)) (clL_cons rfl clL_nil)))) ⟨.agg [vs [], vi 0], rfl, rfl⟩
  ·replace hres := (ite_f hc117).symm.trans hres
   have hc117' := hc117
   try simp only [qa1, qa2, qa3, qa4, qa5, qa6, qa7, qa8, qa9, qaA, qaB, qaC, qaD] at hc117'
   refine rc_skip ?_
   refine pn_seq ?_
   refine rc_seq ?_
   refine rc_region ?_
   refine rd_op (ov_move rfl) ?_
   refine rd_op (ov_move rfl) ?_
   obtain ⟨v119, e119, r119⟩ := sl_idx (i := x2) r8_115 (by omega) (by omega)
   refine rd_op (ov_iaddr rfl rfl e119) ?_
   refine rd_op (ov_load rfl (TR.cnt api_Field.t r119) (TR.agg api_Field.t r119)) ?_
   refine rd_storeO (k := 0) (v := v119) Mj115 rfl rfl rfl (TR.cnt api_Field.t r119) (fun h120 M120 => ?_)
   replace M120 : Mem h120 [⟨.op i101 w101 0, 51, 2, [v119]⟩] := M120
   refine rd_op (v := vb true) (ov_move rfl) ?_
   refine rd_nil ?_
   refine pn_seq ?_
   subst hres
   exact rc_retV (.cell rfl (load_whole (k := 0) M120 rfl (TR.agg api_Field.t r119)) (.tmp rfl .nil)) (deep_closed (show closed (.tup _) = true from (clL_cons (TR.clo api_Field.t r119) (clL_cons rfl clL_nil)))) ⟨v119, rfl, r119⟩
 ·intro J
  refine rc_cond rfl (fun hc121 => ?_) (fun hc121 => ?_)
  ·replace hres := (ite_t hc121).symm.trans hres
   have hc121' := hc121
   try simp only [qa1, qa2, qa3, qa4, qa5, qa6, qa7, qa8, qa9, qaA, qaB, qaC, qaD] at hc121'
   refine rc_seq ?_
   refine rc_seq ?_
   refine rc_region ?_
   refine rd_op (ov_move rfl) ?_
   refine rd_op (ov_bin rfl rfl i_lss) ?_
   refine rd_op (ov_move rfl) ?_
   refine rd_cut (d := 23) (v := vb ((decide (x1 < 0)) || (decide ((x0.Program.Headers.length : Int) ≤ x1)))) ?_ ?_
   ·intro S Q r
    simp only [ac66_G1, List.cons_append, List.nil_append, List.append_assoc]
    cases hb122 : (decide (x1 < 0))
    ·intro k
     have hb122' := hb122
     try simp only [qa1, qa2, qa3, qa4, qa5, qa6, qa7, qa8, qa9, qaA, qaB, qaC, qaD] at hb122'
     refine rd_yes rfl rfl (ov_move rfl) ?_
     obtain ⟨v123, e123, r123⟩ := expr_Scope.g_Program r0
     refine rd_yes rfl rfl (ov_faddr rfl e123) ?_
     obtain ⟨v124, e124, r124⟩ := api_Program.g_Headers r123
     refine rd_yes rfl rfl (ov_faddr rfl e124) ?_
     refine rd_yes rfl rfl (ov_load rfl (TR.cnt (tSl api_Header.t) r124) (TR.agg (tSl api_Header.t) r124)) ?_
     refine rd_yes rfl rfl (ov_bi rfl (sl_len r124 Tryz.underlying22 _)) ?_
     refine rd_yes rfl rfl (ov_bin rfl rfl i_geq) ?_
     refine rd_op (v := vb (decide ((x0.Program.Headers.length : Int) ≤ x1))) (ov_pick rfl rfl rfl rfl) ?_
     exact rd_weak (sub_cons rfl (sub_skip rfl (sub_skip rfl (sub_skip rfl (sub_skip rfl (sub_skip rfl (sub_skip rfl (sub_skip rfl (sub_refl _))))))))) k
    ·intro k
     refine rd_skip rfl rfl ?_
     refine rd_skip rfl rfl ?_
     refine rd_skip rfl rfl ?_
     refine rd_skip rfl rfl ?_
     refine rd_skip rfl rfl ?_
     refine rd_skip rfl rfl ?_
     refine rd_op (v := vb true) (ov_pick rfl rfl rfl rfl) ?_
     exact rd_weak (sub_cons rfl (sub_skip rfl (sub_skip rfl (sub_skip rfl (sub_skip rfl (sub_skip rfl (sub_skip rfl (sub_skip rfl (sub_refl _))))))))) k
   refine rd_nil ?_
   refine pn_seq ?_
   refine rc_cond rfl (fun hc125 => ?_) (fun hc125 => ?_)
   ·replace hres := (ite_t hc125).symm.trans hres
    have hc125' := hc125
    try simp only [qa1, qa2, qa3, qa4, qa5, qa6, qa7, qa8, qa9, qaA, qaB, qaC, qaD] at hc125'
    refine rc_seq ?_
    refine rc_region ?_
    refine rd_op (v := .agg [vs [], vi 0]) (ov_build (cs := [vs [], vi 0]) rfl rfl) ?_
    refine rd_storeO (k := 0) (v := .agg [vs [], vi 0]) M101 rfl rfl rfl rfl (fun h126 M126 => ?_)
    replace M126 : Mem h126 [⟨.op i101 w101 0, 51, 2, [.agg [vs [], vi 0]]⟩] := M126
    refine rd_op (v := vb false) (ov_move rfl) ?_
    refine rd_nil ?_
    refine pn_seq ?_
    subst hres
    exact rc_retV (.cell rfl (load_whole (k := 0) M126 rfl rfl) (.tmp rfl .nil)) (deep_closed (show closed (.tup _) = true from (clL_cons (TR.clo api_Field.t (show api_Field.t.R ({ Name := ([] : List UInt8), Width := 0 } : api_Field) (.agg [vs [], vi 0]) from rfl)) (clL_cons rfl clL_nil)))) ⟨.agg [vs [], vi 0], rfl, rfl⟩
   ·replace hres := (ite_f hc125).symm.trans hres
    have hc125' := hc125
    try simp only [qa1, qa2, qa3, qa4, qa5, qa6, qa7, qa8, qa9, qaA, qaB, qaC, qaD] at hc125'
    refine rc_skip ?_
    refine pn_seq ?_
    refine rc_region ?_
    obtain ⟨v127, e127, r127⟩ := expr_Scope.g_Program r0
    refine rd_op (ov_faddr rfl e127) ?_
    obtain ⟨v128, e128, r128⟩ := api_Program.g_Headers r127
    refine rd_op (ov_faddr rfl e128) ?_
    refine rd_op (ov_load rfl (TR.cnt (tSl api_Header.t) r128) (TR.agg (tSl api_Header.t) r128)) ?_
    refine rd_op (ov_move rfl) ?_
    obtain ⟨v129, e129, r129⟩ := sl_idx (i := x1) r128 (by omega) (by omega)
    refine rd_op (ov_iaddr rfl rfl e129) ?_
    obtain ⟨v130, e130, r130⟩ := api_Header.g_Fields r129
    refine rd_op (ov_faddr rfl e130) ?_
    refine rd_op (ov_load rfl (TR.cnt (tSl api_Field.t) r130) (TR.agg (tSl api_Field.t) r130)) ?_
    refine rd_op (ov_move rfl) ?_
    refine rd_nil ?_
    refine pn_seq (rc_weak ((sub_cons rfl (sub_cons rfl (sub_cons rfl (sub_nil _))))) (J _ _ r130 _ (Mem.sub M101 (.cons_cons _ .slnil)) hres))
  ·replace hres := (ite_f hc121).symm.trans hres
   have hc121' := hc121
   try simp only [qa1, qa2, qa3, qa4, qa5, qa6, qa7, qa8, qa9, qaA, qaB, qaC, qaD] at hc121'
   refine rc_skip ?_
   refine pn_seq (rc_weak ((sub_cons rfl (sub_cons rfl (sub_cons rfl (sub_nil _))))) (J _ _ r104 _ (Mem.sub M101 (.cons_cons _ .slnil)) hres))

/-- (patchbay/expr.Scope).primary -/
def RF36 (res : Int × Int) (r : PV) : Prop := r = .tup [vi res.1, vi res.2]
theorem f36_ok {x0 : expr_Scope} {x1 : api_ExprNode} {v0 : PV} {v1 : PV} (r0 : expr_Scope.t.R x0 v0) (r1 : api_ExprNode.t.R x1 v1) : FnR Tryz.prog 36 [v0, v1] (.tup [vi ((m1_expr_Scope__primary x0 x1).1), vi ((m1_expr_Scope__primary x0 x1).2)]) := by
 obtain ⟨res, hres⟩ : ∃ res, m1_expr_Scope__primary x0 x1 = res := ⟨_, rfl⟩
 suffices H : RC Tryz.prog ac36 [] (QR Tryz.prog [(4, none), (5, none)] (RF36 res)) (argE 0 [v0, v1]) ⟨0, []⟩ by
  obtain ⟨r, h1, h2⟩ := fnE text36 (by simp) H
  rw [hres]
  have h2 : r = .tup [vi res.1, vi res.2] := h2
  rw [← h2]; exact h1
 unfold m1_expr_Scope__primary at hres
 unfold ac36
 refine rc_seq ?_
 refine rc_region ?_
 refine rd_op (ov_box rfl (TR.cnt expr_Scope.t r0)) ?_
 refine rd_op (ov_box rfl (TR.cnt api_ExprNode.t r1)) ?_
 refine rd_op (v := vi 0) (ov_move rfl) ?_
 refine rd_op (v := vi 0) (ov_move rfl) ?_
 refine rd_nil ?_
 refine pn_seq ?_
 refine rc_seq ?_
 refine rc_seq ?_
 refine rc_region ?_
 refine rd_op (ov_faddr rfl (api_ExprNode.g_Op r1)) ?_
 refine rd_op (ov_load rfl rfl rfl) ?_
 refine rd_nil ?_
 refine pn_seq ?_
 refine rc_block ?_
 refine rc_seq ?_
 refine rc_region ?_
 refine rd_op (ov_bin rfl rfl i_eql) ?_
 refine rd_op (ov_move rfl) ?_
 refine rd_nil ?_
 refine pn_seq ?_
 refine rc_cond rfl (fun hc101 => ?_) (fun hc101 => ?_)
 ·replace hres := (ite_t hc101).symm.trans hres
  have hc101' := hc101
  try simp only [qa1, qa2, qa3, qa4, qa5, qa6, qa7, qa8, qa9, qaA, qaB, qaC, qaD] at hc101'
  refine rc_seq ?_
  refine rc_region ?_
  refine rd_op (ov_faddr rfl (api_ExprNode.g_W r1)) ?_
  refine rd_op (ov_load rfl rfl rfl) ?_
  obtain ⟨y102, hw102, hres⟩ := let_ex hres
  have f102 := f65_ok (x0 := x1.W)  
  rw [hw102] at f102
  refine rd_call (cv_fn rfl rfl (clL_cons rfl clL_nil) f102) ?_
  refine rd_op (ov_move rfl) ?_
  refine rd_op (ov_extract rfl rfl) ?_
  refine rd_op (ov_extract rfl rfl) ?_
  refine rd_op (ov_move rfl) ?_
  refine rd_op (ov_move rfl) ?_
  refine rd_nil ?_
  refine pn_seq ?_
  refine rc_seq ?_
  refine rc_seq ?_
  refine rc_region ?_
  refine rd_op (ov_move rfl) ?_
  refine rd_op (ov_bin rfl rfl i_eql) ?_
  refine rd_op (ov_move rfl) ?_
  refine rd_cut (d := 34) (v := vb ((decide (y102.2 = 0)) && ((decide (x1.N < 0)) || (decide (((bitvec_Mask y102.1).toNat : Int) < x1.N))))) ?_ ?_
  ·intro S Q r
   simp only [ac36_G1, List.cons_append, List.nil_append, List.append_assoc]
   cases hb103 : (decide (y102.2 = 0))
   ·intro k
    simp only [ac36_G2, List.cons_append, List.nil_append, List.append_assoc]
    refine rd_skip rfl rfl ?_
    refine rd_skip rfl rfl ?_
    refine rd_skip rfl rfl ?_
    refine rd_skip rfl rfl ?_
    refine rd_skipU rfl ?_
    refine rd_skipU rfl ?_
    refine rd_skipU rfl ?_
    refine rd_skipU rfl ?_
    refine rd_skipU rfl ?_
    refine rd_skipU rfl ?_
    refine rd_skip rfl rfl ?_
    refine rd_op (v := vb false) (ov_pick rfl rfl rfl rfl) ?_
    exact rd_weak (sub_cons rfl (sub_skip rfl (sub_skip rfl (sub_skip rfl (sub_skip rfl (sub_skip rfl (sub_skip rfl (sub_skip rfl (sub_skip rfl (sub_skip rfl (sub_skip rfl (sub_skip rfl (sub_skip rfl (sub_refl _)))))))))))))) k
   ·intro k
    have hb103' := hb103
    try simp only [qa1, qa2, qa3, qa4, qa5, qa6, qa7, qa8, qa9, qaA, qaB, qaC, qaD] at hb103'
    refine rd_yes rfl rfl (ov_faddr rfl (api_ExprNode.g_N r1)) ?_
    refine rd_yes rfl rfl (ov_load rfl rfl rfl) ?_
    refine rd_yes rfl rfl (ov_bin rfl rfl i_lss) ?_
    refine rd_yes rfl rfl (ov_move rfl) ?_
    refine rd_cut (d := 33) (v := vb ((decide (x1.N < 0)) || (decide (((bitvec_Mask y102.1).toNat : Int) < x1.N)))) ?_ ?_
    ·intro S Q r
     simp only [ac36_G2, List.cons_append, List.nil_append, List.append_assoc]
     cases hb104 : (decide (x1.N < 0))
     ·intro k
      have hb104' := hb104
      try simp only [qa1, qa2, qa3, qa4, qa5, qa6, qa7, qa8, qa9, qaA, qaB, qaC, qaD] at hb104'
      refine rd_yes rfl rfl (ov_faddr rfl (api_ExprNode.g_N r1)) ?_
      refine rd_yes rfl rfl (ov_load rfl rfl rfl) ?_
      refine rd_yes rfl rfl (ov_move rfl) ?_
      have f105 := f43_ok (x0 := y102.1)  
      refine rd_ycall rfl rfl (cv_fn rfl rfl (clL_cons rfl clL_nil) f105) ?_
      refine rd_yes rfl rfl (ov_conv (a := vu32 (bitvec_Mask y102.1)) rfl (c_wi Tryz.underlying42 Tryz.underlying3)) ?_
      refine rd_yes rfl rfl (ov_bin rfl rfl i_gtr) ?_
      refine rd_yes (v := vb (decide (((bitvec_Mask y102.1).toNat : Int) < x1.N))) rfl rfl (ov_pick rfl rfl rfl rfl) ?_
      exact rd_weak (sub_cons rfl (sub_skip rfl (sub_skip rfl (sub_skip rfl (sub_skip rfl (sub_skip rfl (sub_skip rfl (sub_skip rfl (sub_refl _))))))))) k
     ·intro k
      refine rd_skip rfl rfl ?_
      refine rd_skip rfl rfl ?_
      refine rd_skip rfl rfl ?_
      refine rd_skip rfl rfl ?_
      refine rd_skip rfl rfl ?_
      refine rd_skip rfl rfl ?_
      refine rd_yes (v := vb true) rfl rfl (ov_pick rfl rfl rfl rfl) ?_
      exact rd_weak (sub_cons rfl (sub_skip rfl (sub_skip rfl (sub_skip rfl (sub_skip rfl (sub_skip rfl (sub_skip rfl (sub_skip rfl (sub_refl _))))))))) k
    refine rd_op (v := vb ((decide (x1.N < 0)) || (decide (((bitvec_Mask y102.1).toNat : Int) < x1.N)))) (ov_pick rfl rfl rfl rfl) ?_
    exact rd_weak (sub_cons rfl (sub_skip rfl (sub_skip rfl (sub_skip rfl (sub_skip rfl (sub_skip rfl (sub_skip rfl (sub_refl _)))))))) k
  refine rd_nil ?_
  refine pn_seq ?_
  refine rc_cond rfl (fun hc106 => ?_) (fun hc106 => ?_)
  ·replace hres := (ite_t hc106).symm.trans hres
   have hc106' := hc106
   try simp only [qa1, qa2, qa3, qa4, qa5, qa6, qa7, qa8, qa9, qaA, qaB, qaC, qaD] at hc106'
   refine rc_seq ?_
   refine rc_region ?_
   refine rd_op (v := vi 0) (ov_move rfl) ?_
   refine rd_op (v := vi 9) (ov_move rfl) ?_
   refine rd_nil ?_
   refine pn_seq ?_
   subst hres
   exact rc_retV (.tmp rfl (.tmp rfl .nil)) (deep_closed (show closed (.tup _) = true from (clL_cons rfl (clL_cons rfl clL_nil)))) rfl
  ·replace hres := (ite_f hc106).symm.trans hres
   have hc106' := hc106
   try simp only [qa1, qa2, qa3, qa4, qa5, qa6, qa7, qa8, qa9, qaA, qaB, qaC, qaD] at hc106'
   refine rc_skip ?_
   refine pn_seq ?_
   refine rc_seq ?_
   refine rc_region ?_
   refine rd_op (ov_move rfl) ?_
   refine rd_op (ov_move rfl) ?_
   refine rd_op (ov_move rfl) ?_
   refine rd_op (ov_move rfl) ?_
   refine rd_nil ?_
   refine pn_seq ?_
   subst hres
   exact rc_retV (.tmp rfl (.tmp rfl .nil)) (deep_closed (show closed (.tup _) = true from (clL_cons rfl (clL_cons rfl clL_nil)))) rfl
 ·replace hres := (ite_f hc101).symm.trans hres
  have hc101' := hc101
  try simp only [qa1, qa2, qa3, qa4, qa5, qa6, qa7, qa8, qa9, qaA, qaB, qaC, qaD] at hc101'
  refine rc_seq ?_
  refine rc_region ?_
  refine rd_op (ov_bin rfl rfl i_eql) ?_
  refine rd_op (ov_move rfl) ?_
  refine rd_nil ?_
  refine pn_seq ?_
  refine rc_cond rfl (fun hc107 => ?_) (fun hc107 => ?_)
  ·replace hres := (ite_t hc107).symm.trans hres
   have hc107' := hc107
   try simp only [qa1, qa2, qa3, qa4, qa5, qa6, qa7, qa8, qa9, qaA, qaB, qaC, qaD] at hc107'
   refine rc_seq ?_
   refine rc_region ?_
   refine rd_op (ov_load rfl (TR.cnt expr_Scope.t r0) (TR.agg expr_Scope.t r0)) ?_
   refine rd_op (ov_faddr rfl (api_ExprNode.g_N r1)) ?_
   refine rd_op (ov_load rfl rfl rfl) ?_
   refine rd_op (ov_faddr rfl (api_ExprNode.g_W r1)) ?_
   refine rd_op (ov_load rfl rfl rfl) ?_
   obtain ⟨y108, hw108, hres⟩ := let_ex hres
   obtain ⟨v109, f108, r109⟩ := f66_ok (x1 := x1.N) (x2 := x1.W) r0 
   rw [hw108] at f108 r109
   refine rd_call (cv_fn rfl rfl (clL_cons (TR.clo expr_Scope.t r0) (clL_cons rfl (clL_cons rfl clL_nil))) f108) ?_
   refine rd_op (ov_move rfl) ?_
   refine rd_op (ov_extract rfl rfl) ?_
   refine rd_op (ov_extract rfl rfl) ?_
   refine rd_allocO (x := .agg [vs [], vi 0]) (Mem.nil ⟨0, []⟩) rfl rfl (fun i110 w110 h110 M110 => ?_)
   refine rd_storeO (k := 0) (v := v109) M110 rfl rfl rfl (TR.cnt api_Field.t r109) (fun h112 M112 => ?_)
   replace M112 : Mem h112 [⟨.op i110 w110 0, 51, 2, [v109]⟩] := M112
   refine rd_op (ov_move rfl) ?_
   refine rd_nil ?_
   refine pn_seq ?_
   refine rc_seq ?_
   refine rc_seq ?_
   refine rc_region ?_
   refine rd_op (ov_move rfl) ?_
   refine rd_op (ov_not rfl) ?_
   refine rd_nil ?_
   refine pn_seq ?_
   refine rc_cond rfl (fun hc113 => ?_) (fun hc113 => ?_)
   ·replace hres := (ite_t hc113).symm.trans hres
    have hc113' := hc113
    try simp only [qa1, qa2, qa3, qa4, qa5, qa6, qa7, qa8, qa9, qaA, qaB, qaC, qaD] at hc113'
    refine rc_seq ?_
    refine rc_region ?_
    refine rd_op (v := vi 0) (ov_move rfl) ?_
    refine rd_op (v := vi 8) (ov_move rfl) ?_
    refine rd_nil ?_
    refine pn_seq ?_
    subst hres
    exact rc_retV (.tmp rfl (.tmp rfl .nil)) (deep_closed (show closed (.tup _) = true from (clL_cons rfl (clL_cons rfl clL_nil)))) rfl
   ·replace hres := (ite_f hc113).symm.trans hres
    have hc113' := hc113
    try simp only [qa1, qa2, qa3, qa4, qa5, qa6, qa7, qa8, qa9, qaA, qaB, qaC, qaD] at hc113'
    refine rc_skip ?_
    refine pn_seq ?_
    refine rc_seq ?_
    refine rc_region ?_
    refine rd_op (ov_faddrO rfl) ?_
    refine rd_op (ov_loadf (k := 0) M112 rfl rfl (api_Field.g_Width r109)) ?_
    obtain ⟨y114, hw114, hres⟩ := let_ex hres
    have f114 := f65_ok (x0 := y108.1.Width)  
    rw [hw114] at f114
    refine rd_call (cv_fn rfl rfl (clL_cons rfl clL_nil) f114) ?_
    refine rd_op (ov_extract rfl rfl) ?_
    refine rd_op (ov_extract rfl rfl) ?_
    refine rd_op (ov_move rfl) ?_
    refine rd_op (ov_move rfl) ?_
    refine rd_nil ?_
    refine pn_seq ?_
    subst hres
    exact rc_retV (.tmp rfl (.tmp rfl .nil)) (deep_closed (show closed (.tup _) = true from (clL_cons rfl (clL_cons rfl clL_nil)))) rfl
  ·replace hres := (ite_f hc107).symm.trans hres
   have hc107' := hc107
   try simp only [qa1, qa2, qa3, qa4, qa5, qa6, qa7, qa8, qa9, qaA, qaB, qaC, qaD] at hc107'
   refine rc_seq ?_
   refine rc_region ?_
   refine rd_op (ov_bin rfl rfl i_eql) ?_
   refine rd_op (ov_move rfl) ?_
   refine rd_nil ?_
   refine pn_seq ?_
   refine rc_cond rfl (fun hc115 => ?_) (fun hc115 => ?_)
   ·replace hres := (ite_t hc115).symm.trans hres
    have hc115' := hc115
    try simp only [qa1, qa2, qa3, qa4, qa5, qa6, qa7, qa8, qa9, qaA, qaB, qaC, qaD] at hc115'
    refine rc_seq ?_
    refine rc_seq ?_
    refine rc_region ?_
    refine rd_op (ov_faddr rfl (api_ExprNode.g_N r1)) ?_
    refine rd_op (ov_load rfl rfl rfl) ?_
    refine rd_op (ov_bin rfl rfl i_lss) ?_
    refine rd_op (ov_move rfl) ?_
    refine rd_cut (d := 67) (v := vb ((decide (x1.N < 0)) || (decide ((x0.Params.length : Int) ≤ x1.N)))) ?_ ?_
    ·intro S Q r
     simp only [ac36_G3, List.cons_append, List.nil_append, List.append_assoc]
     cases hb116 : (decide (x1.N < 0))
     ·intro k
      have hb116' := hb116
      try simp only [qa1, qa2, qa3, qa4, qa5, qa6, qa7, qa8, qa9, qaA, qaB, qaC, qaD] at hb116'
      refine rd_yes rfl rfl (ov_faddr rfl (api_ExprNode.g_N r1)) ?_
      refine rd_yes rfl rfl (ov_load rfl rfl rfl) ?_
      obtain ⟨v117, e117, r117⟩ := expr_Scope.g_Params r0
      refine rd_yes rfl rfl (ov_faddr rfl e117) ?_
      refine rd_yes rfl rfl (ov_load rfl (TR.cnt (tSl api_Field.t) r117) (TR.agg (tSl api_Field.t) r117)) ?_
      refine rd_yes rfl rfl (ov_bi rfl (sl_len r117 Tryz.underlying23 _)) ?_
      refine rd_yes rfl rfl (ov_bin rfl rfl i_geq) ?_
      refine rd_op (v := vb (decide ((x0.Params.length : Int) ≤ x1.N))) (ov_pick rfl rfl rfl rfl) ?_
      exact rd_weak (sub_cons rfl (sub_skip rfl (sub_skip rfl (sub_skip rfl (sub_skip rfl (sub_skip rfl (sub_skip rfl (sub_skip rfl (sub_refl _))))))))) k
     ·intro k
      refine rd_skip rfl rfl ?_
      refine rd_skip rfl rfl ?_
      refine rd_skip rfl rfl ?_
      refine rd_skip rfl rfl ?_
      refine rd_skip rfl rfl ?_
      refine rd_skip rfl rfl ?_
      refine rd_op (v := vb true) (ov_pick rfl rfl rfl rfl) ?_
      exact rd_weak (sub_cons rfl (sub_skip rfl (sub_skip rfl (sub_skip rfl (sub_skip rfl (sub_skip rfl (sub_skip rfl (sub_skip rfl (sub_refl _))))))))) k
    refine rd_nil ?_
    refine pn_seq ?_
    refine rc_cond rfl (fun hc118 => ?_) (fun hc118 => ?_)
    ·replace hres := (ite_t hc118).symm.trans hres
     have hc118' := hc118
     try simp only [qa1, qa2, qa3, qa4, qa5, qa6, qa7, qa8, qa9, qaA, qaB, qaC, qaD] at hc118'
     refine rc_seq ?_
     refine rc_region ?_
     refine rd_op (v := vi 0) (ov_move rfl) ?_
     refine rd_op (v := vi 8) (ov_move rfl) ?_
     refine rd_nil ?_
     refine pn_seq ?_
     subst hres
     exact rc_retV (.tmp rfl (.tmp rfl .nil)) (deep_closed (show closed (.tup _) = true from (clL_cons rfl (clL_cons rfl clL_nil)))) rfl
    ·replace hres := (ite_f hc118).symm.trans hres
     have hc118' := hc118
     try simp only [qa1, qa2, qa3, qa4, qa5, qa6, qa7, qa8, qa9, qaA, qaB, qaC, qaD] at hc118'
     refine rc_skip ?_
     refine pn_seq ?_
     refine rc_seq ?_
     refine rc_region ?_
     obtain ⟨v119, e119, r119⟩ := expr_Scope.g_Params r0
     refine rd_op (ov_faddr rfl e119) ?_
     refine rd_op (ov_load rfl (TR.cnt (tSl api_Field.t) r119) (TR.agg (tSl api_Field.t) r119)) ?_
     refine rd_op (ov_faddr rfl (api_ExprNode.g_N r1)) ?_
     refine rd_op (ov_load rfl rfl rfl) ?_
     obtain ⟨v120, e120, r120⟩ := sl_idx (i := x1.N) r119 (by omega) (by omega)
     refine rd_op (ov_iaddr rfl rfl e120) ?_
     refine rd_op (ov_faddr rfl (api_Field.g_Width r120)) ?_
     refine rd_op (ov_load rfl rfl rfl) ?_
     obtain ⟨y121, hw121, hres⟩ := let_ex hres
     have f121 := f65_ok (x0 := (ix x0.Params x1.N).Width)  
     rw [hw121] at f121
     refine rd_call (cv_fn rfl rfl (clL_cons rfl clL_nil) f121) ?_
     refine rd_op (ov_extract rfl rfl) ?_
     refine rd_op (ov_extract rfl rfl) ?_
     refine rd_op (ov_move rfl) ?_
     refine rd_op (ov_move rfl) ?_
     refine rd_nil ?_
     refine pn_seq ?_
     subst hres
     exact rc_retV (.tmp rfl (.tmp rfl .nil)) (deep_closed (show closed (.tup _) = true from (clL_cons rfl (clL_cons rfl clL_nil)))) rfl
   ·replace hres := (ite_f hc115).symm.trans hres
    have hc115' := hc115
    try simp only [qa1, qa2, qa3, qa4, qa5, qa6, qa7, qa8, qa9, qaA, qaB, qaC, qaD] at hc115'
    refine rc_skip ?_
    refine pn_blk ?_
    refine pn_seq ?_
    refine rc_seq ?_
    refine rc_seq ?_
    refine rc_region ?_
    refine rd_op (ov_faddr rfl (api_ExprNode.g_N r1)) ?_
    refine rd_op (ov_load rfl rfl rfl) ?_
    refine rd_op (ov_bin rfl rfl i_lss) ?_
    refine rd_op (ov_move rfl) ?_
    refine rd_cut (d := 89) (v := vb ((decide (x1.N < 0)) || (decide ((x0.Program.Headers.length : Int) ≤ x1.N)))) ?_ ?_
    ·intro S Q r
     simp only [ac36_G4, List.cons_append, List.nil_append, List.append_assoc]
     cases hb122 : (decide (x1.N < 0))
     ·intro k
      have hb122' := hb122
      try simp only [qa1, qa2, qa3, qa4, qa5, qa6, qa7, qa8, qa9, qaA, qaB, qaC, qaD] at hb122'
      refine rd_yes rfl rfl (ov_faddr rfl (api_ExprNode.g_N r1)) ?_
      refine rd_yes rfl rfl (ov_load rfl rfl rfl) ?_
      obtain ⟨v123, e123, r123⟩ := expr_Scope.g_Program r0
      refine rd_yes rfl rfl (ov_faddr rfl e123) ?_
      obtain ⟨v124, e124, r124⟩ := api_Program.g_Headers r123
      refine rd_yes rfl rfl (ov_faddr rfl e124) ?_
      refine rd_yes rfl rfl (ov_load rfl (TR.cnt (tSl api_Header.t) r124) (TR.agg (tSl api_Header.t) r124)) ?_
      refine rd_yes rfl rfl (ov_bi rfl (sl_len r124 Tryz.underlying22 _)) ?_
      refine rd_yes rfl rfl (ov_bin rfl rfl i_geq) ?_
      refine rd_op (v := vb (decide ((x0.Program.Headers.length : Int) ≤ x1.N))) (ov_pick rfl rfl rfl rfl) ?_
      exact rd_weak (sub_cons rfl (sub_skip rfl (sub_skip rfl (sub_skip rfl (sub_skip rfl (sub_skip rfl (sub_skip rfl (sub_skip rfl (sub_skip rfl (sub_refl _)))))))))) k
     ·intro k
      refine rd_skip rfl rfl ?_
      refine rd_skip rfl rfl ?_
      refine rd_skip rfl rfl ?_
      refine rd_skip rfl rfl ?_
      refine rd_skip rfl rfl ?_
      refine rd_skip rfl rfl ?_
      refine rd_skip rfl rfl ?_
      refine rd_op (v := vb true) (ov_pick rfl rfl rfl rfl) ?_
      exact rd_weak (sub_cons rfl (sub_skip rfl (sub_skip rfl (sub_skip rfl (sub_skip rfl (sub_skip rfl (sub_skip rfl (sub_skip rfl (sub_skip rfl (sub_refl _)))))))))) k
    refine rd_nil ?_
    refine pn_seq ?_
    refine rc_cond rfl (fun hc125 => ?_) (fun hc125 => ?_)
    ·replace hres := (ite_t hc125).symm.trans hres
     have hc125' := hc125
     try simp only [qa1, qa2, qa3, qa4, qa5, qa6, qa7, qa8, qa9, qaA, qaB, qaC, qaD] at hc125'
     refine rc_seq ?_
     refine rc_region ?_
     refine rd_op (v := vi 0) (ov_move rfl) ?_
     refine rd_op (v := vi 8) (ov_move rfl) ?_
     refine rd_nil ?_
     refine pn_seq ?_
     subst hres
     exact rc_retV (.tmp rfl (.tmp rfl .nil)) (deep_closed (show closed (.tup _) = true from (clL_cons rfl (clL_cons rfl clL_nil)))) rfl
    ·replace hres := (ite_f hc125).symm.trans hres
     have hc125' := hc125
     try simp only [qa1, qa2, qa3, qa4, qa5, qa6, qa7, qa8, qa9, qaA, qaB, qaC, qaD] at hc125'
     refine rc_skip ?_
     refine pn_seq ?_
     refine rc_seq ?_
     refine rc_region ?_
     refine rd_op (v := vi 1) (ov_move rfl) ?_
     refine rd_op (v := vi 0) (ov_move rfl) ?_
     refine rd_nil ?_
     refine pn_seq ?_
     subst hres
     exact rc_retV (.tmp rfl (.tmp rfl .nil)) (deep_closed (show closed (.tup _) = true from (clL_cons rfl (clL_cons rfl clL_nil)))) rfl

/-- patchbay/expr.combine -/
def RF37 (res : Int × Int) (r : PV) : Prop := r = .tup [vi res.1, vi res.2]
theorem f37_ok {x0 : api_ExprNode} {x1 : List Int} {v0 : PV} {v1 : PV} (r0 : api_ExprNode.t.R x0 v0) (r1 : (tAr 3 tI).R x1 v1) : FnR Tryz.prog 37 [v0, v1] (.tup [vi ((expr_combine x0 x1).1), vi ((expr_combine x0 x1).2)]) := by
 obtain ⟨res, hres⟩ : ∃ res, expr_combine x0 x1 = res := ⟨_, rfl⟩
 suffices H : RC Tryz.prog ac37 [] (QR Tryz.prog [(4, none), (5, none)] (RF37 res)) (argE 0 [v0, v1]) ⟨0, []⟩ by
  obtain ⟨r, h1, h2⟩ := fnE text37 (by simp) H
  rw [hres]
  have h2 : r = .tup [vi res.1, vi res.2] := h2
  rw [← h2]; exact h1
 unfold expr_combine at hres
 unfold ac37
 refine rc_seq ?_
 refine rc_region ?_
 refine rd_op (ov_box rfl (TR.cnt api_ExprNode.t r0)) ?_
 refine rd_op (ov_box rfl (TR.cnt (tAr 3 tI) r1)) ?_
 refine rd_op (v := vi 0) (ov_move rfl) ?_
 refine rd_op (v := vi 0) (ov_move rfl) ?_
 refine rd_nil ?_
 refine pn_seq ?_
 refine rc_seq ?_
 refine rc_seq ?_
 refine rc_region ?_
 refine rd_op (ov_faddr rfl (api_ExprNode.g_Op r0)) ?_
 refine rd_op (ov_load rfl rfl rfl) ?_
 refine rd_nil ?_
 refine pn_seq ?_
 refine rc_block ?_
 refine rc_seq ?_
 refine rc_seq ?_
 refine rc_region ?_
 refine rd_op (ov_bin rfl rfl i_eql) ?_
 refine rd_op (ov_move rfl) ?_
 refine rd_nil ?_
 refine pn_seq ?_
 obtain ⟨k102, hk102, hres⟩ := let_ex hres
 refine rc_join (F := fun b S Q => ∀ (x10_102 : Bool) (hj102 : Heap) (Mj102 : Mem hj102 []), k102 x10_102 = res → RC Tryz.prog b S Q [(10, vb x10_102), (9, vi x0.Op), (3, .fp v1), (2, .fp v0)] hj102) ?_ ?_
 ·intro x10_102 hj102 Mj102 hres
  rw [← hk102] at hres
  refine rc_cond rfl (fun hc103 => ?_) (fun hc103 => ?_)
  ·replace hres := (ite_t hc103).symm.trans hres
   have hc103' := hc103
   try simp only [qa1, qa2, qa3, qa4, qa5, qa6, qa7, qa8, qa9, qaA, qaB, qaC, qaD] at hc103'
   refine rc_seq ?_
   refine rc_region ?_
   refine rd_op (ov_faddr rfl (api_ExprNode.g_N r0)) ?_
   refine rd_op (ov_load rfl rfl rfl) ?_
   refine rd_op (ov_bin rfl rfl i_lss) ?_
   refine rd_op (ov_move rfl) ?_
   refine rd_cut (d := 20) (v := vb ((decide (x0.N < 0)) || (decide (31 < x0.N)))) ?_ ?_
   ·intro S Q r
    simp only [ac37_G1, List.cons_append, List.nil_append, List.append_assoc]
    cases hb104 : (decide (x0.N < 0))
    ·intro k
     have hb104' := hb104
     try simp only [qa1, qa2, qa3, qa4, qa5, qa6, qa7, qa8, qa9, qaA, qaB, qaC, qaD] at hb104'
     refine rd_yes rfl rfl (ov_faddr rfl (api_ExprNode.g_N r0)) ?_
     refine rd_yes rfl rfl (ov_load rfl rfl rfl) ?_
     refine rd_yes rfl rfl (ov_bin rfl rfl i_gtr) ?_
     refine rd_op (v := vb (decide (31 < x0.N))) (ov_pick rfl rfl rfl rfl) ?_
     exact rd_weak (sub_cons rfl (sub_skip rfl (sub_skip rfl (sub_skip rfl (sub_skip rfl (sub_refl _)))))) k
    ·intro k
     refine rd_skip rfl rfl ?_
     refine rd_skip rfl rfl ?_
     refine rd_skip rfl rfl ?_
     refine rd_op (v := vb true) (ov_pick rfl rfl rfl rfl) ?_
     exact rd_weak (sub_cons rfl (sub_skip rfl (sub_skip rfl (sub_skip rfl (sub_skip rfl (sub_refl _)))))) k
   refine rd_nil ?_
   refine pn_seq ?_
   refine rc_cond rfl (fun hc105 => ?_) (fun hc105 => ?_)
   ·replace hres := (ite_t hc105).symm.trans hres
    have hc105' := hc105
    try simp only [qa1, qa2, qa3, qa4, qa5, qa6, qa7, qa8, qa9, qaA, qaB, qaC, qaD] at hc105'
    refine rc_seq ?_
    refine rc_region ?_
    refine rd_op (v := vi 0) (ov_move rfl) ?_
    refine rd_op (v := vi 9) (ov_move rfl) ?_
    refine rd_nil ?_
    refine pn_seq ?_
    subst hres
    exact rc_retV (.tmp rfl (.tmp rfl .nil)) (deep_closed (show closed (.tup _) = true from (clL_cons rfl (clL_cons rfl clL_nil)))) rfl
   ·replace hres := (ite_f hc105).symm.trans hres
    have hc105' := hc105
    try simp only [qa1, qa2, qa3, qa4, qa5, qa6, qa7, qa8, qa9, qaA, qaB, qaC, qaD] at hc105'
    refine rc_skip ?_
    refine pn_blk ?_
    refine pn_seq ?_
    refine rc_seq ?_
    refine rc_seq ?_
    refine rc_region ?_
    refine rd_op (ov_faddr rfl (api_ExprNode.g_Op r0)) ?_
    refine rd_op (ov_load rfl rfl rfl) ?_
    obtain ⟨y106, hw106, hres⟩ := let_ex hres
    have f106 := f19_ok (x0 := x0.Op)  
    rw [hw106] at f106
    refine rd_call (cv_fn rfl rfl (clL_cons rfl clL_nil) f106) ?_
    refine rd_op (ov_bin rfl rfl i_eql) ?_
    refine rd_op (ov_move rfl) ?_
    refine rd_cut (d := 80) (v := vb ((decide (y106 = 2)) && (!decide ((ix x1 0) = (ix x1 1))))) ?_ ?_
    ·intro S Q r
     simp only [ac37_G4, List.cons_append, List.nil_append, List.append_assoc]
     cases hb107 : (decide (y106 = 2))
     ·intro k
      refine rd_skip rfl rfl ?_
      refine rd_skip rfl rfl ?_
      refine rd_skip rfl rfl ?_
      refine rd_skip rfl rfl ?_
      refine rd_skip rfl rfl ?_
      refine rd_op (v := vb false) (ov_pick rfl rfl rfl rfl) ?_
      exact rd_weak (sub_cons rfl (sub_skip rfl (sub_skip rfl (sub_skip rfl (sub_skip rfl (sub_skip rfl (sub_skip rfl (sub_refl _)))))))) k
     ·intro k
      have hb107' := hb107
      try simp only [qa1, qa2, qa3, qa4, qa5, qa6, qa7, qa8, qa9, qaA, qaB, qaC, qaD] at hb107'
      obtain ⟨v108, e108, r108⟩ := arr_addr (t := tI) r1 (i := 0) (by omega) (by omega)
      have r108 : v108 = vi (ix x1 0) := r108; subst r108
      refine rd_yes rfl rfl (ov_iaddrA rfl rfl e108) ?_
      refine rd_yes rfl rfl (ov_load rfl rfl rfl) ?_
      obtain ⟨v109, e109, r109⟩ := arr_addr (t := tI) r1 (i := 1) (by omega) (by omega)
      have r109 : v109 = vi (ix x1 1) := r109; subst r109
      refine rd_yes rfl rfl (ov_iaddrA rfl rfl e109) ?_
      refine rd_yes rfl rfl (ov_load rfl rfl rfl) ?_
      refine rd_yes rfl rfl (ov_bin rfl rfl i_neq) ?_
      refine rd_op (v := vb (!decide ((ix x1 0) = (ix x1 1)))) (ov_pick rfl rfl rfl rfl) ?_
      exact rd_weak (sub_cons rfl (sub_skip rfl (sub_skip rfl (sub_skip rfl (sub_skip rfl (sub_skip rfl (sub_skip rfl (sub_refl _)))))))) k
    refine rd_nil ?_
    refine pn_seq ?_
    refine rc_cond rfl (fun hc110 => ?_) (fun hc110 => ?_)
    ·replace hres := (ite_t hc110).symm.trans hres
     have hc110' := hc110
     try simp only [qa1, qa2, qa3, qa4, qa5, qa6, qa7, qa8, qa9, qaA, qaB, qaC, qaD] at hc110'
     refine rc_seq ?_
     refine rc_region ?_
     refine rd_op (v := vi 0) (ov_move rfl) ?_
     refine rd_op (v := vi 10) (ov_move rfl) ?_
     refine rd_nil ?_
     refine pn_seq ?_
     subst hres
     exact rc_retV (.tmp rfl (.tmp rfl .nil)) (deep_closed (show closed (.tup _) = true from (clL_cons rfl (clL_cons rfl clL_nil)))) rfl
    ·replace hres := (ite_f hc110).symm.trans hres
     have hc110' := hc110
     try simp only [qa1, qa2, qa3, qa4, qa5, qa6, qa7, qa8, qa9, qaA, qaB, qaC, qaD] at hc110'
     refine rc_skip ?_
     refine pn_seq ?_
     refine rc_seq ?_
     refine rc_seq ?_
     refine rc_region ?_
     refine rd_op (ov_faddr rfl (api_ExprNode.g_Op r0)) ?_
     refine rd_op (ov_load rfl rfl rfl) ?_
     refine rd_op (ov_bin rfl rfl i_eql) ?_
     refine rd_op (ov_move rfl) ?_
     refine rd_cut (d := 88) (v := vb ((decide (x0.Op = 15)) || (decide (x0.Op = 16)))) ?_ ?_
     ·intro S Q r
      simp only [ac37_G5, List.cons_append, List.nil_append, List.append_assoc]
      cases hb111 : (decide (x0.Op = 15))
      ·intro k
       have hb111' := hb111
       try simp only [qa1, qa2, qa3, qa4, qa5, qa6, qa7, qa8, qa9, qaA, qaB, qaC, qaD] at hb111'
       refine rd_yes rfl rfl (ov_faddr rfl (api_ExprNode.g_Op r0)) ?_
       refine rd_yes rfl rfl (ov_load rfl rfl rfl) ?_
       refine rd_yes rfl rfl (ov_bin rfl rfl i_eql) ?_
       refine rd_op (v := vb (decide (x0.Op = 16))) (ov_pick rfl rfl rfl rfl) ?_
       exact rd_weak (sub_cons rfl (sub_skip rfl (sub_skip rfl (sub_skip rfl (sub_skip rfl (sub_refl _)))))) k
      ·intro k
       refine rd_skip rfl rfl ?_
       refine rd_skip rfl rfl ?_
       refine rd_skip rfl rfl ?_
       refine rd_op (v := vb true) (ov_pick rfl rfl rfl rfl) ?_
       exact rd_weak (sub_cons rfl (sub_skip rfl (sub_skip rfl (sub_skip rfl (sub_skip rfl (sub_refl _)))))) k
     refine rd_nil ?_
     refine pn_seq ?_
     refine rc_cond rfl (fun hc112 => ?_) (fun hc112 => ?_)
     ·replace hres := (ite_t hc112).symm.trans hres
      have hc112' := hc112
      try simp only [qa1, qa2, qa3, qa4, qa5, qa6, qa7, qa8, qa9, qaA, qaB, qaC, qaD] at hc112'
      refine rc_seq ?_
      refine rc_region ?_
      refine rd_op (v := vi 1) (ov_move rfl) ?_
      refine rd_op (v := vi 0) (ov_move rfl) ?_
      refine rd_nil ?_
      refine pn_seq ?_
      subst hres
      exact rc_retV (.tmp rfl (.tmp rfl .nil)) (deep_closed (show closed (.tup _) = true from (clL_cons rfl (clL_cons rfl clL_nil)))) rfl
     ·replace hres := (ite_f hc112).symm.trans hres
      have hc112' := hc112
      try simp only [qa1, qa2, qa3, qa4, qa5, qa6, qa7, qa8, qa9, qaA, qaB, qaC, qaD] at hc112'
      refine rc_skip ?_
      refine pn_seq ?_
      refine rc_seq ?_
      refine rc_region ?_
      obtain ⟨v113, e113, r113⟩ := arr_addr (t := tI) r1 (i := 0) (by omega) (by omega)
      have r113 : v113 = vi (ix x1 0) := r113; subst r113
      refine rd_op (ov_iaddrA rfl rfl e113) ?_
      refine rd_op (ov_load rfl rfl rfl) ?_
      refine rd_op (ov_move rfl) ?_
      refine rd_op (v := vi 0) (ov_move rfl) ?_
      refine rd_nil ?_
      refine pn_seq ?_
      subst hres
      exact rc_retV (.tmp rfl (.tmp rfl .nil)) (deep_closed (show closed (.tup _) = true from (clL_cons rfl (clL_cons rfl clL_nil)))) rfl
  ·replace hres := (ite_f hc103).symm.trans hres
   have hc103' := hc103
   try simp only [qa1, qa2, qa3, qa4, qa5, qa6, qa7, qa8, qa9, qaA, qaB, qaC, qaD] at hc103'
   refine rc_seq ?_
   refine rc_region ?_
   refine rd_op (ov_bin rfl rfl i_eql) ?_
   refine rd_op (ov_move rfl) ?_
   refine rd_nil ?_
   refine pn_seq ?_
   refine rc_cond rfl (fun hc114 => ?_) (fun hc114 => ?_)
   ·replace hres := (ite_t hc114).symm.trans hres
    have hc114' := hc114
    try simp only [qa1, qa2, qa3, qa4, qa5, qa6, qa7, qa8, qa9, qaA, qaB, qaC, qaD] at hc114'
    refine rc_seq ?_
    refine rc_seq ?_
    refine rc_region ?_
    refine rd_op (ov_faddr rfl (api_ExprNode.g_N r0)) ?_
    refine rd_op (ov_load rfl rfl rfl) ?_
    refine rd_op (ov_bin rfl rfl i_lss) ?_
    refine rd_nil ?_
    refine pn_seq ?_
    refine rc_cond rfl (fun hc115 => ?_) (fun hc115 => ?_)
    ·replace hres := (ite_t hc115).symm.trans hres
     have hc115' := hc115
     try simp only [qa1, qa2, qa3, qa4, qa5, qa6, qa7, qa8, qa9, qaA, qaB, qaC, qaD] at hc115'
     refine rc_seq ?_
     refine rc_region ?_
     refine rd_op (v := vi 0) (ov_move rfl) ?_
     refine rd_op (v := vi 9) (ov_move rfl) ?_
     refine rd_nil ?_
     refine pn_seq ?_
     subst hres
     exact rc_retV (.tmp rfl (.tmp rfl .nil)) (deep_closed (show closed (.tup _) = true from (clL_cons rfl (clL_cons rfl clL_nil)))) rfl
    ·replace hres := (ite_f hc115).symm.trans hres
     have hc115' := hc115
     try simp only [qa1, qa2, qa3, qa4, qa5, qa6, qa7, qa8, qa9, qaA, qaB, qaC, qaD] at hc115'
     refine rc_skip ?_
     refine pn_seq ?_
     refine rc_seq ?_
     refine rc_seq ?_
     refine rc_region ?_
     refine rd_op (ov_faddr rfl (api_ExprNode.g_W r0)) ?_
     refine rd_op (ov_load rfl rfl rfl) ?_
     obtain ⟨y116, hw116, hres⟩ := let_ex hres
     have f116 := f65_ok (x0 := x0.W)  
     rw [hw116] at f116
     refine rd_call (cv_fn rfl rfl (clL_cons rfl clL_nil) f116) ?_
     refine rd_op (ov_move rfl) ?_
     refine rd_op (ov_extract rfl rfl) ?_
     refine rd_op (ov_extract rfl rfl) ?_
     refine rd_op (ov_move rfl) ?_
     refine rd_op (ov_move rfl) ?_
     refine rd_nil ?_
     refine pn_seq ?_
     refine rc_seq ?_
     refine rc_region ?_
     refine rd_op (ov_move rfl) ?_
     refine rd_op (ov_bin rfl rfl i_neq) ?_
     refine rd_op (ov_move rfl) ?_
     refine rd_cut (d := 43) (v := vb ((!decide (y116.2 = 0)) || (decide ((wr ((ix x1 0) - x0.W)) < x0.N)))) ?_ ?_
     ·intro S Q r
      simp only [ac37_G2, List.cons_append, List.nil_append, List.append_assoc]
      cases hb117 : (!decide (y116.2 = 0))
      ·intro k
       have hb117' := hb117
       try simp only [qa1, qa2, qa3, qa4, qa5, qa6, qa7, qa8, qa9, qaA, qaB, qaC, qaD] at hb117'
       refine rd_yes rfl rfl (ov_faddr rfl (api_ExprNode.g_N r0)) ?_
       refine rd_yes rfl rfl (ov_load rfl rfl rfl) ?_
       obtain ⟨v118, e118, r118⟩ := arr_addr (t := tI) r1 (i := 0) (by omega) (by omega)
       have r118 : v118 = vi (ix x1 0) := r118; subst r118
       refine rd_yes rfl rfl (ov_iaddrA rfl rfl e118) ?_
       refine rd_yes rfl rfl (ov_load rfl rfl rfl) ?_
       refine rd_yes rfl rfl (ov_faddr rfl (api_ExprNode.g_W r0)) ?_
       refine rd_yes rfl rfl (ov_load rfl rfl rfl) ?_
       refine rd_yes rfl rfl (ov_bin rfl rfl i_sub) ?_
       refine rd_yes rfl rfl (ov_bin rfl rfl i_gtr) ?_
       refine rd_op (v := vb (decide ((wr ((ix x1 0) - x0.W)) < x0.N))) (ov_pick rfl rfl rfl rfl) ?_
       exact rd_weak (sub_cons rfl (sub_skip rfl (sub_skip rfl (sub_skip rfl (sub_skip rfl (sub_skip rfl (sub_skip rfl (sub_skip rfl (sub_skip rfl (sub_skip rfl (sub_refl _))))))))))) k
      ·intro k
       refine rd_skip rfl rfl ?_
       refine rd_skip rfl rfl ?_
       refine rd_skip rfl rfl ?_
       refine rd_skip rfl rfl ?_
       refine rd_skip rfl rfl ?_
       refine rd_skip rfl rfl ?_
       refine rd_skip rfl rfl ?_
       refine rd_skip rfl rfl ?_
       refine rd_op (v := vb true) (ov_pick rfl rfl rfl rfl) ?_
       exact rd_weak (sub_cons rfl (sub_skip rfl (sub_skip rfl (sub_skip rfl (sub_skip rfl (sub_skip rfl (sub_skip rfl (sub_skip rfl (sub_skip rfl (sub_skip rfl (sub_refl _))))))))))) k
     refine rd_nil ?_
     refine pn_seq ?_
     refine rc_cond rfl (fun hc119 => ?_) (fun hc119 => ?_)
     ·replace hres := (ite_t hc119).symm.trans hres
      have hc119' := hc119
      try simp only [qa1, qa2, qa3, qa4, qa5, qa6, qa7, qa8, qa9, qaA, qaB, qaC, qaD] at hc119'
      refine rc_seq ?_
      refine rc_region ?_
      refine rd_op (v := vi 0) (ov_move rfl) ?_
      refine rd_op (v := vi 10) (ov_move rfl) ?_
      refine rd_nil ?_
      refine pn_seq ?_
      subst hres
      exact rc_retV (.tmp rfl (.tmp rfl .nil)) (deep_closed (show closed (.tup _) = true from (clL_cons rfl (clL_cons rfl clL_nil)))) rfl
     ·replace hres := (ite_f hc119).symm.trans hres
      have hc119' := hc119
      try simp only [qa1, qa2, qa3, qa4, qa5, qa6, qa7, qa8, qa9, qaA, qaB, qaC, qaD] at hc119'
      refine rc_skip ?_
      refine pn_seq ?_
      refine rc_seq ?_
      refine rc_region ?_
      refine rd_op (ov_faddr rfl (api_ExprNode.g_W r0)) ?_
      refine rd_op (ov_load rfl rfl rfl) ?_
      refine rd_op (ov_move rfl) ?_
      refine rd_op (v := vi 0) (ov_move rfl) ?_
      refine rd_nil ?_
      refine pn_seq ?_
      subst hres
      exact rc_retV (.tmp rfl (.tmp rfl .nil)) (deep_closed (show closed (.tup _) = true from (clL_cons rfl (clL_cons rfl clL_nil)))) rfl
   ·replace hres := (ite_f hc114).symm.trans hres
    have hc114' := hc114
    try simp only [qa1, qa2, qa3, qa4, qa5, qa6, qa7, qa8, qa9, qaA, qaB, qaC, qaD] at hc114'
    refine rc_seq ?_
    refine rc_region ?_
    refine rd_op (ov_bin rfl rfl i_eql) ?_
    refine rd_op (ov_move rfl) ?_
    refine rd_nil ?_
    refine pn_seq ?_
    refine rc_cond rfl (fun hc120 => ?_) (fun hc120 => ?_)
    ·replace hres := (ite_t hc120).symm.trans hres
     have hc120' := hc120
     try simp only [qa1, qa2, qa3, qa4, qa5, qa6, qa7, qa8, qa9, qaA, qaB, qaC, qaD] at hc120'
     refine rc_seq ?_
     refine rc_region ?_
     obtain ⟨v121, e121, r121⟩ := arr_addr (t := tI) r1 (i := 0) (by omega) (by omega)
     have r121 : v121 = vi (ix x1 0) := r121; subst r121
     refine rd_op (ov_iaddrA rfl rfl e121) ?_
     refine rd_op (ov_load rfl rfl rfl) ?_
     obtain ⟨v122, e122, r122⟩ := arr_addr (t := tI) r1 (i := 1) (by omega) (by omega)
     have r122 : v122 = vi (ix x1 1) := r122; subst r122
     refine rd_op (ov_iaddrA rfl rfl e122) ?_
     refine rd_op (ov_load rfl rfl rfl) ?_
     refine rd_op (ov_bin rfl rfl i_add) ?_
     obtain ⟨y123, hw123, hres⟩ := let_ex hres
     have f123 := f65_ok (x0 := (wr ((ix x1 0) + (ix x1 1))))  
     rw [hw123] at f123
     refine rd_call (cv_fn rfl rfl (clL_cons rfl clL_nil) f123) ?_
     refine rd_op (ov_extract rfl rfl) ?_
     refine rd_op (ov_extract rfl rfl) ?_
     refine rd_op (ov_move rfl) ?_
     refine rd_op (ov_move rfl) ?_
     refine rd_nil ?_
     refine pn_seq ?_
     subst hres
     exact rc_retV (.tmp rfl (.tmp rfl .nil)) (deep_closed (show closed (.tup _) = true from (clL_cons rfl (clL_cons rfl clL_nil)))) rfl
    ·replace hres := (ite_f hc120).symm.trans hres
     have hc120' := hc120
     try simp only [qa1, qa2, qa3, qa4, qa5, qa6, qa7, qa8, qa9, qaA, qaB, qaC, qaD] at hc120'
     refine rc_seq ?_
     refine rc_region ?_
     refine rd_op (ov_bin rfl rfl i_eql) ?_
     refine rd_op (ov_move rfl) ?_
     refine rd_nil ?_
     refine pn_seq ?_
     refine rc_cond rfl (fun hc124 => ?_) (fun hc124 => ?_)
     ·replace hres := (ite_t hc124).symm.trans hres
      have hc124' := hc124
      try simp only [qa1, qa2, qa3, qa4, qa5, qa6, qa7, qa8, qa9, qaA, qaB, qaC, qaD] at hc124'
      refine rc_seq ?_
      refine rc_seq ?_
      refine rc_region ?_
      obtain ⟨v125, e125, r125⟩ := arr_addr (t := tI) r1 (i := 0) (by omega) (by omega)
      have r125 : v125 = vi (ix x1 0) := r125; subst r125
      refine rd_op (ov_iaddrA rfl rfl e125) ?_
      refine rd_op (ov_load rfl rfl rfl) ?_
      refine rd_op (ov_bin rfl rfl i_neq) ?_
      refine rd_op (ov_move rfl) ?_
      refine rd_cut (d := 67) (v := vb ((!decide ((ix x1 0) = 1)) || (!decide ((ix x1 1) = (ix x1 2))))) ?_ ?_
      ·intro S Q r
       simp only [ac37_G3, List.cons_append, List.nil_append, List.append_assoc]
       cases hb126 : (!decide ((ix x1 0) = 1))
       ·intro k
        have hb126' := hb126
        try simp only [qa1, qa2, qa3, qa4, qa5, qa6, qa7, qa8, qa9, qaA, qaB, qaC, qaD] at hb126'
        obtain ⟨v127, e127, r127⟩ := arr_addr (t := tI) r1 (i := 1) (by omega) (by omega)
        have r127 : v127 = vi (ix x1 1) := r127; subst r127
        refine rd_yes rfl rfl (ov_iaddrA rfl rfl e127) ?_
        refine rd_yes rfl rfl (ov_load rfl rfl rfl) ?_
        obtain ⟨v128, e128, r128⟩ := arr_addr (t := tI) r1 (i := 2) (by omega) (by omega)
        have r128 : v128 = vi (ix x1 2) := r128; subst r128
        refine rd_yes rfl rfl (ov_iaddrA rfl rfl e128) ?_
        refine rd_yes rfl rfl (ov_load rfl rfl rfl) ?_
        refine rd_yes rfl rfl (ov_bin rfl rfl i_neq) ?_
        refine rd_op (v := vb (!decide ((ix x1 1) = (ix x1 2)))) (ov_pick rfl rfl rfl rfl) ?_
        exact rd_weak (sub_cons rfl (sub_skip rfl (sub_skip rfl (sub_skip rfl (sub_skip rfl (sub_skip rfl (sub_skip rfl (sub_refl _)))))))) k
       ·intro k
        refine rd_skip rfl rfl ?_
        refine rd_skip rfl rfl ?_
        refine rd_skip rfl rfl ?_
        refine rd_skip rfl rfl ?_
        refine rd_skip rfl rfl ?_
        refine rd_op (v := vb true) (ov_pick rfl rfl rfl rfl) ?_
        exact rd_weak (sub_cons rfl (sub_skip rfl (sub_skip rfl (sub_skip rfl (sub_skip rfl (sub_skip rfl (sub_skip rfl (sub_refl _)))))))) k
      refine rd_nil ?_
      refine pn_seq ?_
      refine rc_cond rfl (fun hc129 => ?_) (fun hc129 => ?_)
      ·replace hres := (ite_t hc129).symm.trans hres
       have hc129' := hc129
       try simp only [qa1, qa2, qa3, qa4, qa5, qa6, qa7, qa8, qa9, qaA, qaB, qaC, qaD] at hc129'
       refine rc_seq ?_
       refine rc_region ?_
       refine rd_op (v := vi 0) (ov_move rfl) ?_
       refine rd_op (v := vi 10) (ov_move rfl) ?_
       refine rd_nil ?_
       refine pn_seq ?_
       subst hres
       exact rc_retV (.tmp rfl (.tmp rfl .nil)) (deep_closed (show closed (.tup _) = true from (clL_cons rfl (clL_cons rfl clL_nil)))) rfl
      ·replace hres := (ite_f hc129).symm.trans hres
       have hc129' := hc129
       try simp only [qa1, qa2, qa3, qa4, qa5, qa6, qa7, qa8, qa9, qaA, qaB, qaC, qaD] at hc129'
       refine rc_skip ?_
       refine pn_seq ?_
       refine rc_seq ?_
       refine rc_region ?_
       obtain ⟨v130, e130, r130⟩ := arr_addr (t := tI) r1 (i := 1) (by omega) (by omega)
       have r130 : v130 = vi (ix x1 1) := r130; subst r130
       refine rd_op (ov_iaddrA rfl rfl e130) ?_
       refine rd_op (ov_load rfl rfl rfl) ?_
       refine rd_op (ov_move rfl) ?_
       refine rd_op (v := vi 0) (ov_move rfl) ?_
       refine rd_nil ?_
       refine pn_seq ?_
       subst hres
       exact rc_retV (.tmp rfl (.tmp rfl .nil)) (deep_closed (show closed (.tup _) = true from (clL_cons rfl (clL_cons rfl clL_nil)))) rfl
     ·replace hres := (ite_f hc124).symm.trans hres
      have hc124' := hc124
      try simp only [qa1, qa2, qa3, qa4, qa5, qa6, qa7, qa8, qa9, qaA, qaB, qaC, qaD] at hc124'
      refine rc_skip ?_
      refine pn_blk ?_
      refine pn_seq ?_
      refine rc_seq ?_
      refine rc_seq ?_
      refine rc_region ?_
      refine rd_op (ov_faddr rfl (api_ExprNode.g_Op r0)) ?_
      refine rd_op (ov_load rfl rfl rfl) ?_
      obtain ⟨y131, hw131, hres⟩ := let_ex hres
      have f131 := f19_ok (x0 := x0.Op)  
      rw [hw131] at f131
      refine rd_call (cv_fn rfl rfl (clL_cons rfl clL_nil) f131) ?_
      refine rd_op (ov_bin rfl rfl i_eql) ?_
      refine rd_op (ov_move rfl) ?_
      refine rd_cut (d := 80) (v := vb ((decide (y131 = 2)) && (!decide ((ix x1 0) = (ix x1 1))))) ?_ ?_
      ·intro S Q r
       simp only [ac37_G4, List.cons_append, List.nil_append, List.append_assoc]
       cases hb132 : (decide (y131 = 2))
       ·intro k
        refine rd_skip rfl rfl ?_
        refine rd_skip rfl rfl ?_
        refine rd_skip rfl rfl ?_
        refine rd_skip rfl rfl ?_
        refine rd_skip rfl rfl ?_
        refine rd_op (v := vb false) (ov_pick rfl rfl rfl rfl) ?_
        exact rd_weak (sub_cons rfl (sub_skip rfl (sub_skip rfl (sub_skip rfl (sub_skip rfl (sub_skip rfl (sub_skip rfl (sub_refl _)))))))) k
       ·intro k
        have hb132' := hb132
        try simp only [qa1, qa2, qa3, qa4, qa5, qa6, qa7, qa8, qa9, qaA, qaB, qaC, qaD] at hb132'
        obtain ⟨v133, e133, r133⟩ := arr_addr (t := tI) r1 (i := 0) (by omega) (by omega)
        have r133 : v133 = vi (ix x1 0) := r133; subst r133
        refine rd_yes rfl rfl (ov_iaddrA rfl rfl e133) ?_
        refine rd_yes rfl rfl (ov_load rfl rfl rfl) ?_
        obtain ⟨v134, e134, r134⟩ := arr_addr (t := tI) r1 (i := 1) (by omega) (by omega)
        have r134 : v134 = vi (ix x1 1) := r134; subst r134
        refine rd_yes rfl rfl (ov_iaddrA rfl rfl e134) ?_
        refine rd_yes rfl rfl (ov_load rfl rfl rfl) ?_
        refine rd_yes rfl rfl (ov_bin rfl rfl i_neq) ?_
        refine rd_op (v := vb (!decide ((ix x1 0) = (ix x1 1)))) (ov_pick rfl rfl rfl rfl) ?_
        exact rd_weak (sub_cons rfl (sub_skip rfl (sub_skip rfl (sub_skip rfl (sub_skip rfl (sub_skip rfl (sub_skip rfl (sub_refl _)))))))) k
      refine rd_nil ?_
      refine pn_seq ?_
      refine rc_cond rfl (fun hc135 => ?_) (fun hc135 => ?_)
      ·replace hres := (ite_t hc135).symm.trans hres
       have hc135' := hc135
       try simp only [qa1, qa2, qa3, qa4, qa5, qa6, qa7, qa8, qa9, qaA, qaB, qaC, qaD] at hc135'
       refine rc_seq ?_
       refine rc_region ?_
       refine rd_op (v := vi 0) (ov_move rfl) ?_
       refine rd_op (v := vi 10) (ov_move rfl) ?_
       refine rd_nil ?_
       refine pn_seq ?_
       subst hres
       exact rc_retV (.tmp rfl (.tmp rfl .nil)) (deep_closed (show closed (.tup _) = true from (clL_cons rfl (clL_cons rfl clL_nil)))) rfl
      ·replace hres := (ite_f hc135).symm.trans hres
       have hc135' := hc135
       try simp only [qa1, qa2, qa3, qa4, qa5, qa6, qa7, qa8, qa9, qaA, qaB, qaC, qaD] at hc135'
       refine rc_skip ?_
       refine pn_seq ?_
       refine rc_seq ?_
       refine rc_seq ?_
       refine rc_region ?_
       refine rd_op (ov_faddr rfl (api_ExprNode.g_Op r0)) ?_
       refine rd_op (ov_load rfl rfl rfl) ?_
       refine rd_op (ov_bin rfl rfl i_eql) ?_
       refine rd_op (ov_move rfl) ?_
       refine rd_cut (d := 88) (v := vb ((decide (x0.Op = 15)) || (decide (x0.Op = 16)))) ?_ ?_
       ·intro S Q r
        simp only [ac37_G5, List.cons_append, List.nil_append, List.append_assoc]
        cases hb136 : (decide (x0.Op = 15))
        ·intro k
         have hb136' := hb136
         try simp only [qa1, qa2, qa3, qa4, qa5, qa6, qa7, qa8, qa9, qaA, qaB, qaC, qaD] at hb136'
         refine rd_yes rfl rfl (ov_faddr rfl (api_ExprNode.g_Op r0)) ?_
         refine rd_yes rfl rfl (ov_load rfl rfl rfl) ?_
         refine rd_yes rfl rfl (ov_bin rfl rfl i_eql) ?_
         refine rd_op (v := vb (decide (x0.Op = 16))) (ov_pick rfl rfl rfl rfl) ?_
         exact rd_weak (sub_cons rfl (sub_skip rfl (sub_skip rfl (sub_skip rfl (sub_skip rfl (sub_refl _)))))) k
        ·intro k
         refine rd_skip rfl rfl ?_
         refine rd_skip rfl rfl ?_
         refine rd_skip rfl rfl ?_
         refine rd_op (v := vb true) (ov_pick rfl rfl rfl rfl) ?_
         exact rd_weak (sub_cons rfl (sub_skip rfl (sub_skip rfl (sub_skip rfl (sub_skip rfl (sub_refl _)))))) k
       refine rd_nil ?_
       refine pn_seq ?_
       refine rc_cond rfl (fun hc137 => ?_) (fun hc137 => ?_)
       ·replace hres := (ite_t hc137).symm.trans hres
        have hc137' := hc137
        try simp only [qa1, qa2, qa3, qa4, qa5, qa6, qa7, qa8, qa9, qaA, qaB, qaC, qaD] at hc137'
        refine rc_seq ?_
        refine rc_region ?_
        refine rd_op (v := vi 1) (ov_move rfl) ?_
        refine rd_op (v := vi 0) (ov_move rfl) ?_
        refine rd_nil ?_
        refine pn_seq ?_
        subst hres
        exact rc_retV (.tmp rfl (.tmp rfl .nil)) (deep_closed (show closed (.tup _) = true from (clL_cons rfl (clL_cons rfl clL_nil)))) rfl
       ·replace hres := (ite_f hc137).symm.trans hres
        have hc137' := hc137
        try simp only [qa1, qa2, qa3, qa4, qa5, qa6, qa7, qa8, qa9, qaA, qaB, qaC, qaD] at hc137'
        refine rc_skip ?_
        refine pn_seq ?_
        refine rc_seq ?_
        refine rc_region ?_
        obtain ⟨v138, e138, r138⟩ := arr_addr (t := tI) r1 (i := 0) (by omega) (by omega)
        have r138 : v138 = vi (ix x1 0) := r138; subst r138
        refine rd_op (ov_iaddrA rfl rfl e138) ?_
        refine rd_op (ov_load rfl rfl rfl) ?_
        refine rd_op (ov_move rfl) ?_
        refine rd_op (v := vi 0) (ov_move rfl) ?_
        refine rd_nil ?_
        refine pn_seq ?_
        subst hres
        exact rc_retV (.tmp rfl (.tmp rfl .nil)) (deep_closed (show closed (.tup _) = true from (clL_cons rfl (clL_cons rfl clL_nil)))) rfl
 ·intro J
  refine rc_cond rfl (fun hc139 => ?_) (fun hc139 => ?_)
  ·replace hres := (ite_t hc139).symm.trans hres
   have hc139' := hc139
   try simp only [qa1, qa2, qa3, qa4, qa5, qa6, qa7, qa8, qa9, qaA, qaB, qaC, qaD] at hc139'
   refine rc_skip ?_
   refine pn_seq (rc_weak ((sub_cons rfl (sub_cons rfl (sub_cons rfl (sub_cons rfl (sub_nil _)))))) (J _ _ (Mem.sub (Mem.nil ⟨0, []⟩) .slnil) hres))
  ·replace hres := (ite_f hc139).symm.trans hres
   have hc139' := hc139
   try simp only [qa1, qa2, qa3, qa4, qa5, qa6, qa7, qa8, qa9, qaA, qaB, qaC, qaD] at hc139'
   refine rc_region ?_
   refine rd_op (ov_bin rfl rfl i_eql) ?_
   refine rd_op (ov_move rfl) ?_
   refine rd_nil ?_
   refine pn_seq (rc_weak ((sub_cons rfl (sub_cons rfl (sub_cons rfl (sub_cons rfl (sub_nil _)))))) (J _ _ (Mem.sub (Mem.nil ⟨0, []⟩) .slnil) hres))

end Go.Proofs.YtfekghenlhoamaaGreat
