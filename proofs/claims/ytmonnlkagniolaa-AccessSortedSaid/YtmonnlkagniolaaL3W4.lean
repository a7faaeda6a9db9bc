/-
 The code of each function does what its plain program says.
-/
import Derived.Test.YtmonnlkagniolaaL3W3
set_option linter.unusedVariables false
set_option linter.unusedSimpArgs false
set_option maxRecDepth 100000
namespace Go.Proofs.Ytmonnlkagniolaa
open Go Go.Pb Go.RowKit
/-- patchbay/expr.Check -/
def RF88 (res : Int × Int) (r : PV) : Prop := r = .tup [vi res.1, vi res.2]
theorem f88_ok {x0 : List y11q} {x1 : y28q} {v0 : PV} {v1 : PV} (r0 : (tSl y11q.t).R x0 v0) (r1 : y28q.t.R x1 v1) : FnR Try.prog 88 [v0, v1] (.tup [vi ((expr_Check x0 x1).1), vi ((expr_Check x0 x1).2)]) := by
 obtain ⟨res, hres⟩ : ∃ res, expr_Check x0 x1 = res := ⟨_, rfl⟩
 suffices H : RC Try.prog ac88 [] (QR Try.prog [(4, none), (5, none)] (RF88 res)) (argE 0 [v0, v1]) ⟨0, []⟩ by
  obtain ⟨r, h1, h2⟩ := fnE text88 (by simp) H
  rw [hres]
  have h2 : r = .tup [vi res.1, vi res.2] := h2
  rw [← h2]; exact h1
 unfold expr_Check at hres
 unfold ac88
 refine y7q (y2q (rd_op (y102q rfl (TR.cnt y28q.t r1)) (rd_op (v := vi 0) (y1q rfl) (rd_op (v := vi 0) (y1q rfl) (y10q (y6q (y7q (y7q ?_))))))))
 refine y2q (rd_op (y1q rfl) (rd_op (ov_bi rfl (y62q r0 Try.underlying32 _)) (rd_op (y20q rfl rfl i_gtr) (y10q (y6q ?_)))))
 refine y24q rfl (fun hc101 => ?_) (fun hc101 => ?_)
 ·replace hres := (ite_t hc101).symm.trans hres
  have hc101' := hc101
  try simp only [qa, qaD] at hc101'
  refine y7q (y2q (rd_op (v := vi 0) (y1q rfl) (rd_op (v := vi 12) (y1q rfl) (y10q (y6q ?_)))))
  subst hres
  exact y35q (.tmp rfl (.tmp rfl .nil)) (y17q (show closed (.tup _) = true from (y15q rfl (y15q rfl y36q)))) rfl
 ·replace hres := (ite_f hc101).symm.trans hres
  have hc101' := hc101
  try simp only [qa, qaD] at hc101'
  refine y34q (y6q (y7q (y2q (rd_op (y19q rfl (TR.cnt y28q.t r1) (TR.agg y28q.t r1)) (rd_op (y1q rfl) ?_)))))
  obtain ⟨y102, hw102, hres⟩ := y47q hres
  have f102 := f96_ok (x2 := 0) r1 r0 (by first | assumption | omega | (rw [wr_of (by omega) (by omega)]; omega)) (by first | assumption | omega | (rw [wr_of (by omega) (by omega)]; omega))
  rw [hw102] at f102
  refine y52q (cv_fn rfl rfl (y15q (TR.clo y28q.t r1) (y15q (TR.clo (tSl y11q.t) r0) (y15q rfl y36q))) f102) (rd_op (y1q rfl) (rd_op (y45q rfl rfl) (rd_op (y45q rfl rfl) (rd_op (y45q rfl rfl) (rd_op (y1q rfl) (rd_op (y1q rfl) (rd_op (y1q rfl) (y10q ?_))))))))
  refine y6q (y7q (y42q (y7q (y2q (rd_op (y1q rfl) (rd_op (y20q rfl rfl i_neq) (rd_op (y1q rfl) (y10q ?_))))))))
  refine y6q ?_
  refine y24q rfl (fun hc103 => ?_) (fun hc103 => ?_)
  ·replace hres := (ite_t hc103).symm.trans hres
   have hc103' := hc103
   try simp only [qa, qaD] at hc103'
   refine y7q (y2q (rd_op (y1q rfl) (rd_op (v := vi 0) (y1q rfl) (rd_op (y1q rfl) (y10q (y6q ?_))))))
   subst hres
   exact y35q (.tmp rfl (.tmp rfl .nil)) (y17q (show closed (.tup _) = true from (y15q rfl (y15q rfl y36q)))) rfl
  ·replace hres := (ite_f hc103).symm.trans hres
   have hc103' := hc103
   try simp only [qa, qaD] at hc103'
   refine y7q (y2q (rd_op (y1q rfl) (rd_op (y1q rfl) (rd_op (ov_bi rfl (y62q r0 Try.underlying32 _)) (rd_op (y20q rfl rfl i_lss) (rd_op (y1q rfl) (y10q (y6q ?_))))))))
   refine y24q rfl (fun hc104 => ?_) (fun hc104 => ?_)
   ·replace hres := (ite_t hc104).symm.trans hres
    have hc104' := hc104
    try simp only [qa, qaD] at hc104'
    refine y7q (y2q (rd_op (v := vi 0) (y1q rfl) (rd_op (v := vi 4) (y1q rfl) (y10q (y6q ?_)))))
    subst hres
    exact y35q (.tmp rfl (.tmp rfl .nil)) (y17q (show closed (.tup _) = true from (y15q rfl (y15q rfl y36q)))) rfl
   ·replace hres := (ite_f hc104).symm.trans hres
    have hc104' := hc104
    try simp only [qa, qaD] at hc104'
    refine y34q (y67q (y6q (y7q (y2q (rd_op (y1q rfl) (rd_op (y1q rfl) (rd_op (v := vi 0) (y1q rfl) (y10q ?_))))))))
    refine y6q ?_
    subst hres
    exact y35q (.tmp rfl (.tmp rfl .nil)) (y17q (show closed (.tup _) = true from (y15q rfl (y15q rfl y36q)))) rfl

/-- (patchbay/action.checker).value -/
def RF87 (res : Int) (r : PV) : Prop := r = vi res
theorem f87_ok {x0 : y41q} {x1 : List y11q} {x2 : Int} {v0 : PV} {v1 : PV} (r0 : y41q.t.R x0 v0) (r1 : (tSl y11q.t).R x1 v1) : FnR Try.prog 87 [v0, v1, vi x2] (vi (y88q x0 x1 x2)) := by
 obtain ⟨res, hres⟩ : ∃ res, y88q x0 x1 x2 = res := ⟨_, rfl⟩
 suffices H : RC Try.prog ac87 [] (QR Try.prog [(6, none)] (RF87 res)) (argE 0 [v0, v1, vi x2]) ⟨0, []⟩ by
  obtain ⟨r, h1, h2⟩ := fnE text87 (by simp) H
  rw [hres]
  have h2 : r = vi res := h2
  rw [← h2]; exact h1
 unfold y88q at hres
 unfold ac87
 refine y7q (y2q (rd_op (y102q rfl (TR.cnt y41q.t r0)) (rd_op (v := vi 0) (y1q rfl) (y10q (y6q (y7q (y2q (rd_op (y1q rfl) ?_))))))))
 obtain ⟨v101, e101, r101⟩ := y41q.g_scope r0
 refine rd_op (y22q rfl e101) (rd_op (y19q rfl (TR.cnt y28q.t r101) (TR.agg y28q.t r101)) ?_)
 obtain ⟨y102, hw102, hres⟩ := y47q hres
 have f102 := f88_ok  r1 r101 
 rw [hw102] at f102
 refine y52q (cv_fn rfl rfl (y15q (TR.clo (tSl y11q.t) r1) (y15q (TR.clo y28q.t r101) y36q)) f102) (rd_op (y1q rfl) (rd_op (y45q rfl rfl) (rd_op (y45q rfl rfl) (rd_op (y1q rfl) (rd_op (y1q rfl) (y10q (y6q (y7q ?_))))))))
 refine y7q (y2q (rd_op (y1q rfl) (rd_op (y20q rfl rfl i_eql) (rd_op (y1q rfl) ?_))))
 refine y63q (d := 22) (v := vb ((decide (y102.2 = 0)) && (!decide (y102.1 = x2)))) ?_ ?_
 ·intro S Q r
  simp only [ac87_G1, List.cons_append, List.nil_append, List.append_assoc]
  cases hb103 : (decide (y102.2 = 0))
  ·intro k
   refine y12q rfl rfl (y12q rfl rfl (y12q rfl rfl (rd_op (v := vb false) (y30q rfl rfl rfl rfl) ?_)))
   exact y29q (y3q rfl (y0q rfl (y0q rfl (y0q rfl (y0q rfl (y25q _)))))) k
  ·intro k
   have hb103' := hb103
   try simp only [qa, qaD] at hb103'
   refine y18q rfl rfl (y1q rfl) (y18q rfl rfl (y1q rfl) (y18q rfl rfl (y20q rfl rfl i_neq) (rd_op (v := vb (!decide (y102.1 = x2))) (y30q rfl rfl rfl rfl) ?_)))
   exact y29q (y3q rfl (y0q rfl (y0q rfl (y0q rfl (y0q rfl (y25q _)))))) k
 refine y10q (y6q ?_)
 refine y24q rfl (fun hc104 => ?_) (fun hc104 => ?_)
 ·replace hres := (ite_t hc104).symm.trans hres
  have hc104' := hc104
  try simp only [qa, qaD] at hc104'
  refine y7q (y2q (rd_op (v := vi 10) (y1q rfl) (y10q (y6q ?_))))
  subst hres
  exact y35q (.tmp rfl .nil) (y17q rfl) rfl
 ·replace hres := (ite_f hc104).symm.trans hres
  have hc104' := hc104
  try simp only [qa, qaD] at hc104'
  refine y34q (y6q (y7q (y2q (rd_op (y1q rfl) (rd_op (y1q rfl) (y10q (y6q ?_)))))))
  subst hres
  exact y35q (.tmp rfl .nil) (y17q rfl) rfl

/-- (patchbay/action.checker).statement -/
def RF74 (res : Int) (r : PV) : Prop := r = vi res
theorem f74_ok {x0 : y41q} {x1 : y13q} {v0 : PV} {v1 : PV} (r0 : y41q.t.R x0 v0) (r1 : y13q.t.R x1 v1) : FnR Try.prog 74 [v0, v1] (vi (y77q x0 x1)) := by
 obtain ⟨res, hres⟩ : ∃ res, y77q x0 x1 = res := ⟨_, rfl⟩
 suffices H : RC Try.prog ac74 [] (QR Try.prog [(4, none)] (RF74 res)) (argE 0 [v0, v1]) ⟨0, []⟩ by
  obtain ⟨r, h1, h2⟩ := fnE text74 (by simp) H
  rw [hres]
  have h2 : r = vi res := h2
  rw [← h2]; exact h1
 unfold y77q at hres
 unfold ac74
 refine y7q (y2q (rd_op (y102q rfl (TR.cnt y41q.t r0)) (rd_op (y102q rfl (TR.cnt y13q.t r1)) (rd_op (v := vi 0) (y1q rfl) (y10q (y6q (y7q (y2q ?_))))))))
 obtain ⟨v101, e101, r101⟩ := y41q.g_scope r0
 refine rd_op (y22q rfl e101) ?_
 obtain ⟨v102, e102, r102⟩ := y28q.g_Program r101
 refine rd_op (y22q rfl e102) (rd_op (y19q rfl (TR.cnt y5q.t r102) (TR.agg y5q.t r102)) ?_)
 refine y94q (x := .agg [vs [], nilS, nilS, nilS, nilS, nilS, nilS, nilS, nilS]) (Mem.nil ⟨0, []⟩) rfl rfl (fun i103 w103 h103 M103 => ?_)
 refine y89q (k := 0) (v := v102) M103 rfl rfl rfl (TR.cnt y5q.t r102) (fun h105 M105 => ?_)
 replace M105 : Mem h105 [⟨.op i103 w103 0, 31, 9, [v102]⟩] := M105
 refine y10q (y6q (y7q (y2q (rd_op (ov_load0 (k := 0) M105 rfl rfl (TR.agg y5q.t r102)) ?_))))
 obtain ⟨v106, e106, r106⟩ := y13q.g_Dst r1
 refine rd_op (y22q rfl e106) (rd_op (y19q rfl (TR.cnt y4q.t r106) (TR.agg y4q.t r106)) ?_)
 obtain ⟨y107, hw107, hres⟩ := y47q hres
 have f107 := f86_ok  r102 r106 
 rw [hw107] at f107
 refine y52q (cv_fn rfl rfl (y15q (TR.clo y5q.t r102) (y15q (TR.clo y4q.t r106) y36q)) f107) (rd_op (y1q rfl) (rd_op (y45q rfl rfl) (rd_op (y45q rfl rfl) (rd_op (y1q rfl) (rd_op (y1q rfl) (y10q (y6q (y7q ?_))))))))
 refine y2q (rd_op (y22q rfl (y13q.g_Register r1)) (rd_op (y19q rfl rfl rfl) (rd_op (y20q rfl rfl i_geq) (rd_op (y1q rfl) ?_))))
 refine y63q (d := 31) (v := vb ((decide (0 ≤ x1.Register)) && (decide (x1.Register < (x0.scope.Program.Registers.length : Int))))) ?_ ?_
 ·intro S Q r
  simp only [ac74_G1, List.cons_append, List.nil_append, List.append_assoc]
  cases hb108 : (decide (0 ≤ x1.Register))
  ·intro k
   refine y12q rfl rfl (y12q rfl rfl (y12q rfl rfl (y12q rfl rfl (y12q rfl rfl (y12q rfl rfl (rd_op (v := vb false) (y30q rfl rfl rfl rfl) ?_))))))
   exact y29q (y3q rfl (y0q rfl (y0q rfl (y0q rfl (y0q rfl (y0q rfl (y0q rfl (y0q rfl (y25q _))))))))) k
  ·intro k
   have hb108' := hb108
   try simp only [qa, qaD] at hb108'
   refine y18q rfl rfl (y22q rfl (y13q.g_Register r1)) (y18q rfl rfl (y19q rfl rfl rfl) (y18q rfl rfl (y33q rfl) ?_))
   obtain ⟨v109, e109, r109⟩ := y5q.g_Registers r102
   refine y18q rfl rfl (y43q (k := 0) M105 rfl rfl e109) (y18q rfl rfl (ov_bi rfl (y62q r109 Try.underlying24 _)) (y18q rfl rfl (y20q rfl rfl i_lss) (rd_op (v := vb (decide (x1.Register < (x0.scope.Program.Registers.length : Int)))) (y30q rfl rfl rfl rfl) ?_)))
   exact y29q (y3q rfl (y0q rfl (y0q rfl (y0q rfl (y0q rfl (y0q rfl (y0q rfl (y0q rfl (y25q _))))))))) k
 refine rd_op (y1q rfl) (y10q (y6q (y7q (y7q (y2q (rd_op (y22q rfl (y13q.g_Kind r1)) (rd_op (y19q rfl rfl rfl) (y10q ?_))))))))
 refine y6q (y42q (y7q (y2q (rd_op (y20q rfl rfl i_eql) (rd_op (y1q rfl) (y10q (y6q ?_)))))))
 refine y24q rfl (fun hc110 => ?_) (fun hc110 => ?_)
 ·replace hres := (ite_t hc110).symm.trans hres
  have hc110' := hc110
  try simp only [qa, qaD] at hc110'
  refine y7q (y7q (y2q (rd_op (y1q rfl) (rd_op (ov_not rfl) (y10q (y6q ?_))))))
  refine y24q rfl (fun hc111 => ?_) (fun hc111 => ?_)
  ·replace hres := (ite_t hc111).symm.trans hres
   have hc111' := hc111
   try simp only [qa, qaD] at hc111'
   refine y7q (y2q (rd_op (v := vi 8) (y1q rfl) (y10q (y6q ?_))))
   subst hres
   exact y35q (.tmp rfl .nil) (y17q rfl) rfl
  ·replace hres := (ite_f hc111).symm.trans hres
   have hc111' := hc111
   try simp only [qa, qaD] at hc111'
   refine y34q (y6q (y7q (y2q (rd_op (y19q rfl (TR.cnt y41q.t r0) (TR.agg y41q.t r0)) ?_))))
   obtain ⟨v112, e112, r112⟩ := y13q.g_Value r1
   refine rd_op (y22q rfl e112) (rd_op (y19q rfl (TR.cnt (tSl y11q.t) r112) (TR.agg (tSl y11q.t) r112)) (rd_op (y1q rfl) ?_))
   obtain ⟨y113, hw113, hres⟩ := y47q hres
   have f113 := f87_ok (x2 := y107.1) r0 r112 
   rw [hw113] at f113
   refine y52q (cv_fn rfl rfl (y15q (TR.clo y41q.t r0) (y15q (TR.clo (tSl y11q.t) r112) (y15q rfl y36q))) f113) (rd_op (y1q rfl) (y10q (y6q ?_)))
   subst hres
   exact y35q (.tmp rfl .nil) (y17q rfl) rfl
 ·replace hres := (ite_f hc110).symm.trans hres
  have hc110' := hc110
  try simp only [qa, qaD] at hc110'
  refine y7q (y7q (y2q (rd_op (y20q rfl rfl i_eql) (rd_op (y1q rfl) (y10q (y6q ?_))))))
  obtain ⟨k115, hk115, hres⟩ := y47q hres
  refine rc_join (F := fun b S Q => ∀ (x43_115 : Bool) (hj115 : Heap) (Mj115 : Mem hj115 [⟨.op i103 w103 0, 31, 9, [v102]⟩]), k115 x43_115 = res → RC Try.prog b S Q [(43, vb x43_115), (33, vi x1.Kind), (8, vb ((decide (0 ≤ x1.Register)) && (decide (x1.Register < (x0.scope.Program.Registers.length : Int))))), (7, vb y107.2), (6, vi y107.1), (5, .op i103 w103 0), (3, .fp v1), (2, .fp v0)] hj115) ?_ ?_
  ·intro x43_115 hj115 Mj115 hres
   rw [← hk115] at hres
   refine y24q rfl (fun hc116 => ?_) (fun hc116 => ?_)
   ·replace hres := (ite_t hc116).symm.trans hres
    have hc116' := hc116
    try simp only [qa, qaD] at hc116'
    refine y7q (y7q (y2q (rd_op (y22q rfl (y13q.g_Header r1)) (rd_op (y19q rfl rfl rfl) (rd_op (y20q rfl rfl i_lss) (rd_op (y1q rfl) ?_))))))
    refine y63q (d := 56) (v := vb ((decide (x1.Header < 0)) || (decide ((x0.scope.Program.Headers.length : Int) ≤ x1.Header)))) ?_ ?_
    ·intro S Q r
     simp only [ac74_G2, List.cons_append, List.nil_append, List.append_assoc]
     cases hb117 : (decide (x1.Header < 0))
     ·intro k
      have hb117' := hb117
      try simp only [qa, qaD] at hb117'
      refine y18q rfl rfl (y22q rfl (y13q.g_Header r1)) (y18q rfl rfl (y19q rfl rfl rfl) (y18q rfl rfl (y33q rfl) ?_))
      obtain ⟨v118, e118, r118⟩ := y5q.g_Headers r102
      refine y18q rfl rfl (y43q (k := 0) Mj115 rfl rfl e118) (y18q rfl rfl (ov_bi rfl (y62q r118 Try.underlying22 _)) (y18q rfl rfl (y20q rfl rfl i_geq) (rd_op (v := vb (decide ((x0.scope.Program.Headers.length : Int) ≤ x1.Header))) (y30q rfl rfl rfl rfl) ?_)))
      exact y29q (y3q rfl (y0q rfl (y0q rfl (y0q rfl (y0q rfl (y0q rfl (y0q rfl (y0q rfl (y25q _))))))))) k
     ·intro k
      refine y12q rfl rfl (y12q rfl rfl (y12q rfl rfl (y12q rfl rfl (y12q rfl rfl (y12q rfl rfl (rd_op (v := vb true) (y30q rfl rfl rfl rfl) ?_))))))
      exact y29q (y3q rfl (y0q rfl (y0q rfl (y0q rfl (y0q rfl (y0q rfl (y0q rfl (y0q rfl (y25q _))))))))) k
    refine y10q (y6q ?_)
    refine y24q rfl (fun hc119 => ?_) (fun hc119 => ?_)
    ·replace hres := (ite_t hc119).symm.trans hres
     have hc119' := hc119
     try simp only [qa, qaD] at hc119'
     refine y7q (y2q (rd_op (v := vi 8) (y1q rfl) (y10q (y6q ?_))))
     subst hres
     exact y35q (.tmp rfl .nil) (y17q rfl) rfl
    ·replace hres := (ite_f hc119).symm.trans hres
     have hc119' := hc119
     try simp only [qa, qaD] at hc119'
     refine y34q (y6q (y7q (y2q (rd_op (v := vi 0) (y1q rfl) (y10q (y6q ?_))))))
     subst hres
     exact y35q (.tmp rfl .nil) (y17q rfl) rfl
   ·replace hres := (ite_f hc116).symm.trans hres
    have hc116' := hc116
    try simp only [qa, qaD] at hc116'
    refine y7q (y7q (y2q (rd_op (y20q rfl rfl i_eql) (rd_op (y1q rfl) (y10q (y6q ?_))))))
    obtain ⟨k121, hk121, hres⟩ := y47q hres
    refine rc_join (F := fun b S Q => ∀ (x57_121 : Bool) (hj121 : Heap) (Mj121 : Mem hj121 [⟨.op i103 w103 0, 31, 9, [v102]⟩]), k121 x57_121 = res → RC Try.prog b S Q [(57, vb x57_121), (8, vb ((decide (0 ≤ x1.Register)) && (decide (x1.Register < (x0.scope.Program.Registers.length : Int))))), (7, vb y107.2), (6, vi y107.1), (5, .op i103 w103 0), (3, .fp v1), (2, .fp v0)] hj121) ?_ ?_
    ·intro x57_121 hj121 Mj121 hres
     rw [← hk121] at hres
     refine y24q rfl (fun hc122 => ?_) (fun hc122 => ?_)
     ·replace hres := (ite_t hc122).symm.trans hres
      have hc122' := hc122
      try simp only [qa, qaD] at hc122'
      refine y7q (y7q (y2q (rd_op (y1q rfl) (rd_op (ov_not rfl) (rd_op (y1q rfl) ?_)))))
      refine y63q (d := 70) (v := vb ((!((decide (0 ≤ x1.Register)) && (decide (x1.Register < (x0.scope.Program.Registers.length : Int))))) || ((decide (x1.Kind = 4)) && (!y107.2)))) ?_ ?_
      ·intro S Q r
       simp only [ac74_G3, List.cons_append, List.nil_append, List.append_assoc]
       cases hb123 : (!((decide (0 ≤ x1.Register)) && (decide (x1.Register < (x0.scope.Program.Registers.length : Int)))))
       ·intro k
        have hb123' := hb123
        try simp only [qa, qaD] at hb123'
        refine y18q rfl rfl (y22q rfl (y13q.g_Kind r1)) (y18q rfl rfl (y19q rfl rfl rfl) (y18q rfl rfl (y20q rfl rfl i_eql) (y18q rfl rfl (y1q rfl) ?_)))
        refine y63q (d := 69) (v := vb ((decide (x1.Kind = 4)) && (!y107.2))) ?_ ?_
        ·intro S Q r
         simp only [ac74_G4, List.cons_append, List.nil_append, List.append_assoc]
         cases hb124 : (decide (x1.Kind = 4))
         ·intro k
          refine y12q rfl rfl (y12q rfl rfl (y18q (v := vb false) rfl rfl (y30q rfl rfl rfl rfl) ?_))
          exact y29q (y3q rfl (y0q rfl (y0q rfl (y0q rfl (y25q _))))) k
         ·intro k
          have hb124' := hb124
          try simp only [qa, qaD] at hb124'
          refine y18q rfl rfl (y1q rfl) (y18q rfl rfl (ov_not rfl) (y18q (v := vb (!y107.2)) rfl rfl (y30q rfl rfl rfl rfl) ?_))
          exact y29q (y3q rfl (y0q rfl (y0q rfl (y0q rfl (y25q _))))) k
        refine rd_op (v := vb ((decide (x1.Kind = 4)) && (!y107.2))) (y30q rfl rfl rfl rfl) ?_
        exact y29q (y3q rfl (y0q rfl (y0q rfl (y0q rfl (y0q rfl (y0q rfl (y0q rfl (y25q _)))))))) k
       ·intro k
        simp only [ac74_G4, List.cons_append, List.nil_append, List.append_assoc]
        refine y12q rfl rfl (y12q rfl rfl (y12q rfl rfl (y12q rfl rfl (rd_skipU rfl (rd_skipU rfl (y12q rfl rfl (rd_op (v := vb true) (y30q rfl rfl rfl rfl) ?_)))))))
        exact y29q (y3q rfl (y0q rfl (y0q rfl (y0q rfl (y0q rfl (y0q rfl (y0q rfl (y0q rfl (y0q rfl (y25q _)))))))))) k
      refine y10q (y6q ?_)
      refine y24q rfl (fun hc125 => ?_) (fun hc125 => ?_)
      ·replace hres := (ite_t hc125).symm.trans hres
       have hc125' := hc125
       try simp only [qa, qaD] at hc125'
       refine y7q (y2q (rd_op (v := vi 8) (y1q rfl) (y10q (y6q ?_))))
       subst hres
       exact y35q (.tmp rfl .nil) (y17q rfl) rfl
      ·replace hres := (ite_f hc125).symm.trans hres
       have hc125' := hc125
       try simp only [qa, qaD] at hc125'
       refine y34q (y6q (y7q (y7q (y2q ?_))))
       obtain ⟨v126, e126, r126⟩ := y13q.g_Index r1
       refine rd_op (y22q rfl e126) (rd_op (y19q rfl (TR.cnt (tSl y11q.t) r126) (TR.agg (tSl y11q.t) r126)) ?_)
       obtain ⟨v127, e127, r127⟩ := y41q.g_scope r0
       refine rd_op (y22q rfl e127) (rd_op (y19q rfl (TR.cnt y28q.t r127) (TR.agg y28q.t r127)) ?_)
       obtain ⟨y128, hw128, hres⟩ := y47q hres
       have f128 := f88_ok  r126 r127 
       rw [hw128] at f128
       refine y52q (cv_fn rfl rfl (y15q (TR.clo (tSl y11q.t) r126) (y15q (TR.clo y28q.t r127) y36q)) f128) (rd_op (y1q rfl) (rd_op (y45q rfl rfl) (rd_op (y45q rfl rfl) (rd_op (y1q rfl) (rd_op (y1q rfl) (y10q (y6q (y7q ?_))))))))
       refine y2q (rd_op (y1q rfl) (rd_op (y20q rfl rfl i_neq) (y10q (y6q ?_))))
       refine y24q rfl (fun hc129 => ?_) (fun hc129 => ?_)
       ·replace hres := (ite_t hc129).symm.trans hres
        have hc129' := hc129
        try simp only [qa, qaD] at hc129'
        refine y7q (y2q (rd_op (y1q rfl) (rd_op (y1q rfl) (y10q (y6q ?_)))))
        subst hres
        exact y35q (.tmp rfl .nil) (y17q rfl) rfl
       ·replace hres := (ite_f hc129).symm.trans hres
        have hc129' := hc129
        try simp only [qa, qaD] at hc129'
        refine y34q (y6q (y7q (y7q (y2q (rd_op (y22q rfl (y13q.g_Kind r1)) (rd_op (y19q rfl rfl rfl) (rd_op (y20q rfl rfl i_eql) (y10q ?_))))))))
        refine y6q ?_
        refine y24q rfl (fun hc130 => ?_) (fun hc130 => ?_)
        ·replace hres := (ite_t hc130).symm.trans hres
         have hc130' := hc130
         try simp only [qa, qaD] at hc130'
         refine y7q (y2q (rd_op (y19q rfl (TR.cnt y41q.t r0) (TR.agg y41q.t r0)) ?_))
         obtain ⟨v131, e131, r131⟩ := y13q.g_Value r1
         refine rd_op (y22q rfl e131) (rd_op (y19q rfl (TR.cnt (tSl y11q.t) r131) (TR.agg (tSl y11q.t) r131)) (rd_op (y33q rfl) ?_))
         obtain ⟨v132, e132, r132⟩ := y5q.g_Registers r102
         refine rd_op (y43q (k := 0) Mj121 rfl rfl e132) (rd_op (y22q rfl (y13q.g_Register r1)) (rd_op (y19q rfl rfl rfl) ?_))
         obtain ⟨v133, e133, r133⟩ := y106q (i := x1.Register) r132 (by omega) (by omega)
         refine rd_op (y48q rfl rfl e133) (rd_op (y22q rfl (y27q.g_Width r133)) (rd_op (y19q rfl rfl rfl) ?_))
         obtain ⟨y134, hw134, hres⟩ := y47q hres
         have f134 := f87_ok (x2 := (ix x0.scope.Program.Registers x1.Register).Width) r0 r131 
         rw [hw134] at f134
         refine y52q (cv_fn rfl rfl (y15q (TR.clo y41q.t r0) (y15q (TR.clo (tSl y11q.t) r131) (y15q rfl y36q))) f134) (rd_op (y1q rfl) (y10q (y6q ?_)))
         subst hres
         exact y35q (.tmp rfl .nil) (y17q rfl) rfl
        ·replace hres := (ite_f hc130).symm.trans hres
         have hc130' := hc130
         try simp only [qa, qaD] at hc130'
         refine y34q (y6q (y7q (y7q (y2q (rd_op (y1q rfl) (rd_op (y33q rfl) ?_))))))
         obtain ⟨v135, e135, r135⟩ := y5q.g_Registers r102
         refine rd_op (y43q (k := 0) Mj121 rfl rfl e135) (rd_op (y22q rfl (y13q.g_Register r1)) (rd_op (y19q rfl rfl rfl) ?_))
         obtain ⟨v136, e136, r136⟩ := y106q (i := x1.Register) r135 (by omega) (by omega)
         refine rd_op (y48q rfl rfl e136) (rd_op (y22q rfl (y27q.g_Width r136)) (rd_op (y19q rfl rfl rfl) (rd_op (y20q rfl rfl i_neq) (y10q (y6q ?_)))))
         refine y24q rfl (fun hc137 => ?_) (fun hc137 => ?_)
         ·replace hres := (ite_t hc137).symm.trans hres
          have hc137' := hc137
          try simp only [qa, qaD] at hc137'
          refine y7q (y2q (rd_op (v := vi 10) (y1q rfl) (y10q (y6q ?_))))
          subst hres
          exact y35q (.tmp rfl .nil) (y17q rfl) rfl
         ·replace hres := (ite_f hc137).symm.trans hres
          have hc137' := hc137
          try simp only [qa, qaD] at hc137'
          refine y34q (y6q (y7q (y2q (rd_op (v := vi 0) (y1q rfl) (y10q (y6q ?_))))))
          subst hres
          exact y35q (.tmp rfl .nil) (y17q rfl) rfl
     ·replace hres := (ite_f hc122).symm.trans hres
      have hc122' := hc122
      try simp only [qa, qaD] at hc122'
      refine y34q (y67q (y6q (y7q (y2q (rd_op (v := vi 11) (y1q rfl) (y10q (y6q ?_)))))))
      subst hres
      exact y35q (.tmp rfl .nil) (y17q rfl) rfl
    ·intro J
     refine y24q rfl (fun hc138 => ?_) (fun hc138 => ?_)
     ·replace hres := (ite_t hc138).symm.trans hres
      have hc138' := hc138
      try simp only [qa, qaD] at hc138'
      refine y34q ?_
      refine y6q (y37q ((y3q rfl (y3q rfl (y3q rfl (y3q rfl (y3q rfl (y3q rfl (y3q rfl (y31q _))))))))) (J _ _ (Mem.sub Mj115 (.cons_cons _ .slnil)) hres))
     ·replace hres := (ite_f hc138).symm.trans hres
      have hc138' := hc138
      try simp only [qa, qaD] at hc138'
      refine y2q (rd_op (y20q rfl rfl i_eql) (rd_op (y1q rfl) (y10q ?_)))
      refine y6q (y37q ((y3q rfl (y3q rfl (y3q rfl (y3q rfl (y3q rfl (y3q rfl (y3q rfl (y31q _))))))))) (J _ _ (Mem.sub Mj115 (.cons_cons _ .slnil)) hres))
  ·intro J
   refine y24q rfl (fun hc139 => ?_) (fun hc139 => ?_)
   ·replace hres := (ite_t hc139).symm.trans hres
    have hc139' := hc139
    try simp only [qa, qaD] at hc139'
    refine y34q ?_
    refine y6q (y37q ((y3q rfl (y3q rfl (y3q rfl (y3q rfl (y3q rfl (y3q rfl (y3q rfl (y3q rfl (y31q _)))))))))) (J _ _ (Mem.sub M105 (.cons_cons _ .slnil)) hres))
   ·replace hres := (ite_f hc139).symm.trans hres
    have hc139' := hc139
    try simp only [qa, qaD] at hc139'
    refine y2q (rd_op (y20q rfl rfl i_eql) (rd_op (y1q rfl) (y10q ?_)))
    refine y6q (y37q ((y3q rfl (y3q rfl (y3q rfl (y3q rfl (y3q rfl (y3q rfl (y3q rfl (y3q rfl (y31q _)))))))))) (J _ _ (Mem.sub M105 (.cons_cons _ .slnil)) hres))

/-- patchbay/action.Check -/
def RF50 (res : Int × Int) (r : PV) : Prop := r = .tup [vi res.1, vi res.2]
theorem action_Check_L1_ok {S : List Fr} {res : Int × Int} {x0 : y5q} {x1 : Int} {y109 : Int} {v111 : PV} {v112_c1 : PV} {v112_c2 : PV} {v112_c3 : PV} {v112_c4 : PV} {v112_c5 : PV} {v112_c6 : PV} {v112_c7 : PV} {v112_c8 : PV} {v116 : PV} {i113 : Nat} {w113 : Nat} (hc103 : ((decide (x1 < 0)) || (decide ((x0.Actions.length : Int) ≤ x1))) = false) (hw109 : action_declaration (ix x0.Actions x1) = y109) (hc110 : (!decide (y109 = 0)) = false) (r116 : (tSl y13q.t).R ((ix x0.Actions x1).Body) v116) (r117 : y41q.t.R ({ scope := ({ Program := x0, Params := (ix x0.Actions x1).Params } : y28q) } : y41q) (.agg [vs x0.Name, v112_c1, v112_c2, v112_c3, v112_c4, v112_c5, v112_c6, v112_c7, v112_c8, v111])) {K0 : Unit → (Int × Int)}
  (hK0 : ∀ (h : Heap) (M0 : Mem h [⟨.op i113 w113 0, 142, 10, [.agg [vs x0.Name, v112_c1, v112_c2, v112_c3, v112_c4, v112_c5, v112_c6, v112_c7, v112_c8, v111]]⟩]), K0 () = res → PX Try.prog 0 S (QR Try.prog [(4, none), (5, none)] (RF50 res)) [] h) :
  ∀ (m : Nat) (x37_ : Int) (hm1 : m = Int.toNat ((((ix x0.Actions x1).Body).length : Int) - x37_)) (hlo1 : 0 ≤ x37_) (h : Heap) (M0 : Mem h [⟨.op i113 w113 0, 142, 10, [.agg [vs x0.Name, v112_c1, v112_c2, v112_c3, v112_c4, v112_c5, v112_c6, v112_c7, v112_c8, v111]]⟩]), action_Check_L1 x0 x1 K0 m x37_ = res → RC Try.prog (.loop ac50_L1) S (QR Try.prog [(4, none), (5, none)] (RF50 res)) [(37, vi x37_), (36, vi (((ix x0.Actions x1).Body).length : Int)), (35, v116), (7, .op i113 w113 0)] h := by
 have hc103' := hc103
 try simp only [qa, qaD] at hc103'
 have hc110' := hc110
 try simp only [qa, qaD] at hc110'
 intro m
 induction m with
 | zero =>
  intro x37_ hm1 hlo1 h M0 hres
  rw [action_Check_L1] at hres
  refine y53q ?_
  unfold ac50_L1
  refine y7q (y2q (rd_op (y20q rfl rfl i_lss) (y10q (y6q (y7q ?_)))))
  refine y24q rfl (fun hc118 => ?_) (fun hc118 => ?_)
  ·exfalso
   try simp only [qa, qaD] at hc118
   omega
  ·have hend := hres
   have hc118' := hc118
   try simp only [qa, qaD] at hc118'
   refine y93q (px_seq (y78q ?_))
   exact y96q ((y31q _)) (hK0 _ (Mem.sub M0 (.cons_cons _ .slnil)) hres)
 | succ m ih =>
  intro x37_ hm1 hlo1 h M0 hres
  rw [action_Check_L1] at hres
  refine y53q ?_
  unfold ac50_L1
  refine y7q (y2q (rd_op (y20q rfl rfl i_lss) (y10q (y6q (y7q ?_)))))
  refine y24q rfl (fun hc119 => ?_) (fun hc119 => ?_)
  ·have hgo := hres
   have hc119' := hc119
   try simp only [qa, qaD] at hc119'
   refine y34q (y6q (y7q (y42q (y7q (y2q (rd_op (y1q rfl) ?_))))))
   obtain ⟨v120, e120, r120⟩ := y106q (i := x37_) r116 (by omega) (by omega)
   refine rd_op (y48q rfl rfl e120) (rd_op (y19q rfl (TR.cnt y13q.t r120) (TR.agg y13q.t r120)) ?_)
   refine y94q (x := .agg [vi 0, vi 0, vi 0, vi 0, vi 0, nilS, nilS]) M0 rfl rfl (fun i121 w121 h121 M121 => ?_)
   refine rd_op (y1q rfl) ?_
   refine y89q (k := 0) (v := v120) M121 rfl rfl rfl (TR.cnt y13q.t r120) (fun h123 M123 => ?_)
   replace M123 : Mem h123 [⟨.op i121 w121 0, 87, 7, [v120]⟩, ⟨.op i113 w113 0, 142, 10, [.agg [vs x0.Name, v112_c1, v112_c2, v112_c3, v112_c4, v112_c5, v112_c6, v112_c7, v112_c8, v111]]⟩] := M123
   refine y10q (y6q (y7q (y2q (rd_op (ov_load0 (k := 1) M123 rfl rfl (TR.agg y41q.t r117)) (rd_op (ov_load0 (k := 0) M123 rfl rfl (TR.agg y13q.t r120)) ?_)))))
   obtain ⟨y124, hw124, hres⟩ := y47q hres
   have f124 := f74_ok  r117 r120 
   rw [hw124] at f124
   refine y52q (cv_fn rfl rfl (y15q (TR.clo y41q.t r117) (y15q (TR.clo y13q.t r120) y36q)) f124) (rd_op (y1q rfl) (y10q (y6q (y7q (y2q (rd_op (y1q rfl) (rd_op (y20q rfl rfl i_neq) (y10q ?_))))))))
   refine y6q ?_
   refine y24q rfl (fun hc125 => ?_) (fun hc125 => ?_)
   ·replace hres := (ite_t hc125).symm.trans hres
    have hc125' := hc125
    try simp only [qa, qaD] at hc125'
    refine y7q (y2q (rd_op (y1q rfl) (rd_op (y1q rfl) (rd_op (y1q rfl) (rd_op (y1q rfl) (y10q (y6q ?_)))))))
    subst hres
    exact y35q (.tmp rfl (.tmp rfl .nil)) (y17q (show closed (.tup _) = true from (y15q rfl (y15q rfl y36q)))) rfl
   ·replace hres := (ite_f hc125).symm.trans hres
    have hc125' := hc125
    try simp only [qa, qaD] at hc125'
    refine y34q (y67q (y6q (y2q (rd_op (y20q rfl rfl i_add) (rd_op (y1q rfl) (y10q (y56q ?_)))))))
    have hbd := y58q r116
    have hinc : wr (x37_ + 1) = x37_ + 1 := wr_of (by omega) (by omega)
    rw [hinc]
    refine y37q ?_ (ih (x37_ + 1)  (by omega) (by omega) _ (Mem.sub M123 (.cons _ (.cons_cons _ .slnil))) hres)
    exact ((y3q rfl (y3q rfl (y3q rfl (y3q rfl (y31q _))))))
  ·exfalso
   try simp only [qa, qaD] at hc119
   omega

theorem f50_ok {x0 : y5q} {x1 : Int} {v0 : PV} (r0 : y5q.t.R x0 v0) : FnR Try.prog 50 [v0, vi x1] (.tup [vi ((action_Check x0 x1).1), vi ((action_Check x0 x1).2)]) := by
 obtain ⟨res, hres⟩ : ∃ res, action_Check x0 x1 = res := ⟨_, rfl⟩
 suffices H : RC Try.prog ac50 [] (QR Try.prog [(4, none), (5, none)] (RF50 res)) (argE 0 [v0, vi x1]) ⟨0, []⟩ by
  obtain ⟨r, h1, h2⟩ := fnE text50 (by simp) H
  rw [hres]
  have h2 : r = .tup [vi res.1, vi res.2] := h2
  rw [← h2]; exact h1
 unfold action_Check at hres
 unfold ac50
 refine y7q (y2q (rd_op (y102q rfl (TR.cnt y5q.t r0)) (rd_op (v := vi 0) (y1q rfl) (rd_op (v := vi 0) (y1q rfl) (y10q (y6q (y7q (y7q ?_))))))))
 refine y2q (rd_op (y1q rfl) (rd_op (y20q rfl rfl i_lss) (rd_op (y1q rfl) ?_)))
 refine y63q (d := 18) (v := vb ((decide (x1 < 0)) || (decide ((x0.Actions.length : Int) ≤ x1)))) ?_ ?_
 ·intro S Q r
  simp only [ac50_G1, List.cons_append, List.nil_append, List.append_assoc]
  cases hb101 : (decide (x1 < 0))
  ·intro k
   have hb101' := hb101
   try simp only [qa, qaD] at hb101'
   refine y18q rfl rfl (y1q rfl) ?_
   obtain ⟨v102, e102, r102⟩ := y5q.g_Actions r0
   refine y18q rfl rfl (y22q rfl e102) (y18q rfl rfl (y19q rfl (TR.cnt (tSl y23q.t) r102) (TR.agg (tSl y23q.t) r102)) (y18q rfl rfl (ov_bi rfl (y62q r102 Try.underlying25 _)) (y18q rfl rfl (y20q rfl rfl i_geq) (rd_op (v := vb (decide ((x0.Actions.length : Int) ≤ x1))) (y30q rfl rfl rfl rfl) ?_))))
   exact y29q (y3q rfl (y0q rfl (y0q rfl (y0q rfl (y0q rfl (y0q rfl (y0q rfl (y25q _)))))))) k
  ·intro k
   refine y12q rfl rfl (y12q rfl rfl (y12q rfl rfl (y12q rfl rfl (y12q rfl rfl (rd_op (v := vb true) (y30q rfl rfl rfl rfl) ?_)))))
   exact y29q (y3q rfl (y0q rfl (y0q rfl (y0q rfl (y0q rfl (y0q rfl (y0q rfl (y25q _)))))))) k
 refine y10q (y6q ?_)
 refine y24q rfl (fun hc103 => ?_) (fun hc103 => ?_)
 ·replace hres := (ite_t hc103).symm.trans hres
  have hc103' := hc103
  try simp only [qa, qaD] at hc103'
  refine y7q (y2q (rd_op (v := vi (-1)) (y1q rfl) (rd_op (v := vi 8) (y1q rfl) (y10q (y6q ?_)))))
  subst hres
  exact y35q (.tmp rfl (.tmp rfl .nil)) (y17q (show closed (.tup _) = true from (y15q rfl (y15q rfl y36q)))) rfl
 ·replace hres := (ite_f hc103).symm.trans hres
  have hc103' := hc103
  try simp only [qa, qaD] at hc103'
  refine y34q (y6q (y7q (y2q ?_)))
  obtain ⟨v104, e104, r104⟩ := y5q.g_Actions r0
  refine rd_op (y22q rfl e104) (rd_op (y19q rfl (TR.cnt (tSl y23q.t) r104) (TR.agg (tSl y23q.t) r104)) (rd_op (y1q rfl) ?_))
  obtain ⟨v105, e105, r105⟩ := y106q (i := x1) r104 (by omega) (by omega)
  refine rd_op (y48q rfl rfl e105) (rd_op (y19q rfl (TR.cnt y23q.t r105) (TR.agg y23q.t r105)) ?_)
  refine y94q (x := .agg [vs [], nilS, nilS]) (Mem.nil ⟨0, []⟩) rfl rfl (fun i106 w106 h106 M106 => ?_)
  refine y89q (k := 0) (v := v105) M106 rfl rfl rfl (TR.cnt y23q.t r105) (fun h108 M108 => ?_)
  replace M108 : Mem h108 [⟨.op i106 w106 0, 49, 3, [v105]⟩] := M108
  refine y10q (y6q (y7q (y7q (y2q (rd_op (ov_load0 (k := 0) M108 rfl rfl (TR.agg y23q.t r105)) ?_)))))
  obtain ⟨y109, hw109, hres⟩ := y47q hres
  have f109 := f73_ok  r105 
  rw [hw109] at f109
  refine y52q (cv_fn rfl rfl (y15q (TR.clo y23q.t r105) y36q) f109) (rd_op (y1q rfl) (y10q (y6q (y7q (y2q (rd_op (y1q rfl) (rd_op (y20q rfl rfl i_neq) (y10q ?_))))))))
  refine y6q ?_
  refine y24q rfl (fun hc110 => ?_) (fun hc110 => ?_)
  ·replace hres := (ite_t hc110).symm.trans hres
   have hc110' := hc110
   try simp only [qa, qaD] at hc110'
   refine y7q (y2q (rd_op (y1q rfl) (rd_op (v := vi (-1)) (y1q rfl) (rd_op (y1q rfl) (y10q (y6q ?_))))))
   subst hres
   exact y35q (.tmp rfl (.tmp rfl .nil)) (y17q (show closed (.tup _) = true from (y15q rfl (y15q rfl y36q)))) rfl
  ·replace hres := (ite_f hc110).symm.trans hres
   have hc110' := hc110
   try simp only [qa, qaD] at hc110'
   refine y34q (y6q (y7q (y2q (rd_op (y19q rfl (TR.cnt y5q.t r0) (TR.agg y5q.t r0)) (rd_op (y33q rfl) ?_)))))
   obtain ⟨v111, e111, r111⟩ := y23q.g_Params r105
   refine rd_op (y43q (k := 0) M108 rfl rfl e111) ?_
   obtain ⟨v112_c1, v112_c2, v112_c3, v112_c4, v112_c5, v112_c6, v112_c7, v112_c8, e112, r112_c1, r112_c2, r112_c3, r112_c4, r112_c5, r112_c6, r112_c7, r112_c8⟩ := r0
   subst e112
   refine rd_op (v := .agg [vs x0.Name, v112_c1, v112_c2, v112_c3, v112_c4, v112_c5, v112_c6, v112_c7, v112_c8, v111]) (ov_build (cs := [vs x0.Name, v112_c1, v112_c2, v112_c3, v112_c4, v112_c5, v112_c6, v112_c7, v112_c8, v111]) rfl (by simp only [buildV, cells_one (TR.cnt (tSl y14q.t) r111) (TR.agg (tSl y14q.t) r111)]; rfl)) (rd_op (v := .agg [vs x0.Name, v112_c1, v112_c2, v112_c3, v112_c4, v112_c5, v112_c6, v112_c7, v112_c8, v111]) (ov_build (cs := [vs x0.Name, v112_c1, v112_c2, v112_c3, v112_c4, v112_c5, v112_c6, v112_c7, v112_c8, v111]) rfl rfl) ?_)
   refine y94q (x := .agg [vs [], nilS, nilS, nilS, nilS, nilS, nilS, nilS, nilS, nilS]) M108 rfl rfl (fun i113 w113 h113 M113 => ?_)
   refine y89q (k := 0) (v := .agg [vs x0.Name, v112_c1, v112_c2, v112_c3, v112_c4, v112_c5, v112_c6, v112_c7, v112_c8, v111]) M113 rfl rfl rfl rfl (fun h115 M115 => ?_)
   replace M115 : Mem h115 [⟨.op i113 w113 0, 142, 10, [.agg [vs x0.Name, v112_c1, v112_c2, v112_c3, v112_c4, v112_c5, v112_c6, v112_c7, v112_c8, v111]]⟩, ⟨.op i106 w106 0, 49, 3, [v105]⟩] := M115
   refine y10q (y6q (y7q (y7q (y2q (rd_op (y33q rfl) ?_)))))
   obtain ⟨v116, e116, r116⟩ := y23q.g_Body r105
   refine rd_op (y43q (k := 1) M115 rfl rfl e116) (rd_op (ov_bi rfl (y62q r116 Try.underlying47 _)) (rd_op (v := vi 0) (y1q rfl) (y10q (y6q (y42q ?_)))))
   have r117 : y41q.t.R ({ scope := ({ Program := x0, Params := (ix x0.Actions x1).Params } : y28q) } : y41q) (.agg [vs x0.Name, v112_c1, v112_c2, v112_c3, v112_c4, v112_c5, v112_c6, v112_c7, v112_c8, v111]) := ⟨v112_c1, v112_c2, v112_c3, v112_c4, v112_c5, v112_c6, v112_c7, v112_c8, v111, rfl, r112_c1, r112_c2, r112_c3, r112_c4, r112_c5, r112_c6, r112_c7, r112_c8, r111⟩
   refine y37q ?_ (action_Check_L1_ok (x0 := x0) (x1 := x1) (y109 := y109) (v111 := v111) (v112_c1 := v112_c1) (v112_c2 := v112_c2) (v112_c3 := v112_c3) (v112_c4 := v112_c4) (v112_c5 := v112_c5) (v112_c6 := v112_c6) (v112_c7 := v112_c7) (v112_c8 := v112_c8) (v116 := v116) (i113 := i113) (w113 := w113) (hc103 := hc103) (hw109 := hw109) (hc110 := hc110) (r116 := r116) (r117 := r117) ?_ (Int.toNat ((((ix x0.Actions x1).Body).length : Int) - 0)) 0 rfl (by omega) _ (Mem.sub M115 (.cons_cons _ (.cons _ .slnil))) hres)
   ·exact ((y3q rfl (y3q rfl (y3q rfl (y3q rfl (y31q _))))))
   ·intro h126 M126 hres
    refine px_blk (y6q (y7q (y2q (rd_op (v := vi 0) (y1q rfl) (rd_op (v := vi 0) (y1q rfl) (y10q (y6q ?_)))))))
    subst hres
    exact y35q (.tmp rfl (.tmp rfl .nil)) (y17q (show closed (.tup _) = true from (y15q rfl (y15q rfl y36q)))) rfl

/-- patchbay/action.body -/
def RF39 (res : (List y13q)) (r : PV) : Prop := (tSl y13q.t).R res r
theorem f39_ok {x0 : y5q} {x1 : Int} {v0 : PV} (r0 : y5q.t.R x0 v0) : ∃ r, FnR Try.prog 39 [v0, vi x1] r ∧ (tSl y13q.t).R (action_body x0 x1) r := by
 obtain ⟨res, hres⟩ : ∃ res, action_body x0 x1 = res := ⟨_, rfl⟩
 suffices H : RC Try.prog ac39 [] (QR Try.prog [(4, none)] (RF39 res)) (argE 0 [v0, vi x1]) ⟨0, []⟩ by
  rw [hres]
  exact fnE text39 (by simp) H
 unfold action_body at hres
 unfold ac39
 refine y7q (y2q (rd_op (y102q rfl (TR.cnt y5q.t r0)) (rd_op (v := nilS) (y1q rfl) (y10q (y6q (y7q (y7q (y2q ?_))))))))
 refine rd_op (y19q rfl (TR.cnt y5q.t r0) (TR.agg y5q.t r0)) (rd_op (y1q rfl) ?_)
 obtain ⟨y101, hw101, hres⟩ := y47q hres
 have f101 := f50_ok (x1 := x1) r0 
 rw [hw101] at f101
 refine y52q (cv_fn rfl rfl (y15q (TR.clo y5q.t r0) (y15q rfl y36q)) f101) (rd_op (y1q rfl) (rd_op (y45q rfl rfl) (rd_op (y45q rfl rfl) (rd_op (y1q rfl) (rd_op (y1q rfl) (y10q (y6q (y7q ?_))))))))
 refine y2q (rd_op (y1q rfl) (rd_op (y20q rfl rfl i_neq) (y10q (y6q ?_))))
 refine y24q rfl (fun hc102 => ?_) (fun hc102 => ?_)
 ·replace hres := (ite_t hc102).symm.trans hres
  have hc102' := hc102
  try simp only [qa, qaD] at hc102'
  refine y7q (y2q (rd_op (v := nilS) (y1q rfl) (y10q (y6q ?_))))
  subst hres
  exact y35q (.tmp rfl .nil) (y17q (TR.clo (tSl y13q.t) sl_nil)) sl_nil
 ·replace hres := (ite_f hc102).symm.trans hres
  have hc102' := hc102
  try simp only [qa, qaD] at hc102'
  refine y34q (y6q (y7q (y2q ?_)))
  obtain ⟨v103, e103, r103⟩ := y5q.g_Actions r0
  refine rd_op (y22q rfl e103) (rd_op (y19q rfl (TR.cnt (tSl y23q.t) r103) (TR.agg (tSl y23q.t) r103)) (rd_op (y1q rfl) ?_))
  obtain ⟨v104, e104, r104⟩ := y106q (i := x1) r103 (by first | omega | (have hk := ck_ix (by assumption) (by assumption); omega)) (by first | omega | (have hk := ck_ix (by assumption) (by assumption); omega))
  refine rd_op (y48q rfl rfl e104) ?_
  obtain ⟨v105, e105, r105⟩ := y23q.g_Body r104
  refine rd_op (y22q rfl e105) (rd_op (y19q rfl (TR.cnt (tSl y13q.t) r105) (TR.agg (tSl y13q.t) r105)) (rd_op (y1q rfl) (y10q (y6q ?_))))
  subst hres
  exact y35q (.tmp rfl .nil) (y17q (TR.clo (tSl y13q.t) r105)) r105

/-- (*patchbay/action.access).expression -/
def RF40 (i0_ w0_ : Nat) (R_ : List Ent) (res : y32q) (r : PV) (h : Heap) : Prop := ∃ aF0_0 : PV, ∃ esF0_0 : List PV, ∃ aF0_2 : PV, ∃ esF0_2 : List PV, ∃ aF0_4 : PV, ∃ esF0_4 : List PV, Mem h (⟨.op i0_ w0_ 0, 100, 3, [.agg [aF0_0, aF0_2, aF0_4]]⟩ :: ⟨aF0_0, 58, 2, esF0_0⟩ :: ⟨aF0_2, 3, 1, esF0_2⟩ :: ⟨aF0_4, 3, 1, esF0_4⟩ :: R_) ∧ (All2 y4q.t.R res.fields esF0_0) ∧ (isL aF0_0 = true) ∧ (res.fields.length ≤ 4611686018427387904) ∧ (Wri aF0_0 esF0_0) ∧ (All2 tI.R res.headers esF0_2) ∧ (isL aF0_2 = true) ∧ (res.headers.length ≤ 4611686018427387904) ∧ (Wri aF0_2 esF0_2) ∧ (All2 tI.R res.registers esF0_4) ∧ (isL aF0_4 = true) ∧ (res.registers.length ≤ 4611686018427387904) ∧ (Wri aF0_4 esF0_4) ∧ r = .tup []
theorem f40_ok {x0 : y32q} {x1 : List y11q} {v1 : PV} {a0__0 : PV} {es0__0 : List PV} {a0__2 : PV} {es0__2 : List PV} {a0__4 : PV} {es0__4 : List PV} {R_ : List Ent} {h_ : Heap} {i0_ w0_ : Nat} (r1 : (tSl y11q.t).R x1 v1) (qs0__0 : All2 y4q.t.R x0.fields es0__0) (ne0__0 : isL a0__0 = true) (hl0__0 : x0.fields.length ≤ 4611686018427387904) (wi0__1 : Wri a0__0 es0__0) (qs0__2 : All2 tI.R x0.headers es0__2) (ne0__2 : isL a0__2 = true) (hl0__2 : x0.headers.length ≤ 4611686018427387904) (wi0__3 : Wri a0__2 es0__2) (qs0__4 : All2 tI.R x0.registers es0__4) (ne0__4 : isL a0__4 = true) (hl0__4 : x0.registers.length ≤ 4611686018427387904) (wi0__5 : Wri a0__4 es0__4) (M_ : Mem h_ (⟨.op i0_ w0_ 0, 100, 3, [.agg [a0__0, a0__2, a0__4]]⟩ :: ⟨a0__0, 58, 2, es0__0⟩ :: ⟨a0__2, 3, 1, es0__2⟩ :: ⟨a0__4, 3, 1, es0__4⟩ :: R_)) (hb : x1.length ≤ 1000 ∧ x0.fields.length ≤ 100000 ∧ x0.headers.length ≤ 100000) : ∃ r h2_, FnX Try.prog 40 [.op i0_ w0_ 0, v1] h_ r h2_ ∧ RF40 i0_ w0_ R_ (y54q x0 x1) r h2_ := by
 obtain ⟨res, hres⟩ : ∃ res, y54q x0 x1 = res := ⟨_, rfl⟩
 suffices H : RC Try.prog ac40 [] (retPost Try.prog [] (RF40 i0_ w0_ R_ res)) (argE 0 [.op i0_ w0_ 0, v1]) h_ by
  rw [hres]
  exact fnX text40 (by simp) H
 unfold y54q at hres
 unfold ac40
 refine y7q (y2q (rd_op (y1q rfl) (rd_op (y1q rfl) (rd_op (y97q rfl rfl) (rd_op (y33q rfl) (rd_op (y43q (k := 0) M_ rfl rfl (mk1 (y82q (k := 1) M_ rfl ne0__0).2)) (rd_op (y1q rfl) ?_)))))))
 obtain ⟨y101, hw101, hres⟩ := y47q hres
 obtain ⟨v102, f101, r102⟩ := f21_ok  r1 (by first | assumption | omega | (rw [wr_of (by omega) (by omega)]; omega))
 rw [hw101] at r102
 have ek101 : y101.length ≤ x1.length := by rw [← hw101]; exact fields_len _
 refine y52q (cv_fn rfl rfl (y15q (TR.clo (tSl y11q.t) r1) y36q) f101) ?_
 obtain ⟨nw103, sr103, ar103⟩ := src_of (t := y4q.t) (h := h_) r102
 have f103 : fits (es0__0.length + nw103.length) 16 = true := by rw [All2.length_eq qs0__0, All2.length_eq ar103]; (try simp only [List.length_cons, List.length_nil]); exact fits_of (by first | omega | (simp only [List.length_append, List.length_cons, List.length_nil]; omega)) (by first | omega | (simp only [List.length_append, List.length_cons, List.length_nil]; omega))
 refine rd_appW (k := 1) (es := es0__0) (news := nw103) M_ rfl rfl rfl ne0__0 wi0__1 sr103 f103 (fun a103 h103 n103 wr103 M103 => ?_)
 have q103 : All2 y4q.t.R (x0.fields ++ y101) (es0__0 ++ nw103) := All2.app qs0__0 ar103
 have hl103 : (x0.fields ++ y101).length ≤ 4611686018427387904 := by rw [← All2.length_eq q103, List.length_append]; exact fits_len f103
 refine rd_op (y97q rfl rfl) (rd_op (y33q rfl) ?_)
 refine rd_storeF (k := 0) (v := a103) M103 rfl rfl rfl (y82q (k := 1) M103 rfl n103).1 rfl (by first | decide | (simp only [List.length_cons, List.length_nil]; omega) | simp) (fun h104 M104 => ?_)
 replace M104 : Mem h104 (⟨.op i0_ w0_ 0, 100, 3, [.agg [a103, a0__2, a0__4]]⟩ :: ⟨a103, 58, 2, (es0__0 ++ nw103)⟩ :: ⟨a0__2, 3, 1, es0__2⟩ :: ⟨a0__4, 3, 1, es0__4⟩ :: R_) := M104
 refine y10q (y6q (y2q (rd_op (y1q rfl) (rd_op (y1q rfl) (rd_op (y97q rfl rfl) (rd_op (y33q rfl) (rd_op (y43q (k := 0) M104 rfl rfl (mk1 (y82q (k := 2) M104 rfl ne0__2).2)) (rd_op (y1q rfl) ?_))))))))
 obtain ⟨y105, hw105, hres⟩ := y47q hres
 obtain ⟨v106, f105, r106⟩ := f22_ok  r1 (by first | assumption | omega | (rw [wr_of (by omega) (by omega)]; omega))
 rw [hw105] at r106
 have ek105 : y105.length ≤ x1.length := by rw [← hw105]; exact headers_len _
 refine y52q (cv_fn rfl rfl (y15q (TR.clo (tSl y11q.t) r1) y36q) f105) ?_
 obtain ⟨nw107, sr107, ar107⟩ := src_of (t := tI) (h := h104) r106
 have f107 : fits (es0__2.length + nw107.length) 8 = true := by rw [All2.length_eq qs0__2, All2.length_eq ar107]; (try simp only [List.length_cons, List.length_nil]); exact fits_of (by first | omega | (simp only [List.length_append, List.length_cons, List.length_nil]; omega)) (by first | omega | (simp only [List.length_append, List.length_cons, List.length_nil]; omega))
 refine rd_appW (k := 2) (es := es0__2) (news := nw107) M104 rfl rfl rfl ne0__2 wi0__3 sr107 f107 (fun a107 h107 n107 wr107 M107 => ?_)
 have q107 : All2 tI.R (x0.headers ++ y105) (es0__2 ++ nw107) := All2.app qs0__2 ar107
 have hl107 : (x0.headers ++ y105).length ≤ 4611686018427387904 := by rw [← All2.length_eq q107, List.length_append]; exact fits_len f107
 refine rd_op (y97q rfl rfl) (rd_op (y33q rfl) ?_)
 refine rd_storeF (k := 0) (v := a107) M107 rfl rfl rfl (y82q (k := 2) M107 rfl n107).1 rfl (by first | decide | (simp only [List.length_cons, List.length_nil]; omega) | simp) (fun h108 M108 => ?_)
 replace M108 : Mem h108 (⟨.op i0_ w0_ 0, 100, 3, [.agg [a103, a107, a0__4]]⟩ :: ⟨a103, 58, 2, (es0__0 ++ nw103)⟩ :: ⟨a107, 3, 1, (es0__2 ++ nw107)⟩ :: ⟨a0__4, 3, 1, es0__4⟩ :: R_) := M108
 refine y10q ?_
 have MZ109 : Mem h108 (⟨.op i0_ w0_ 0, 100, 3, [.agg [a103, a107, a0__4]]⟩ :: ⟨a103, 58, 2, (es0__0 ++ nw103)⟩ :: ⟨a107, 3, 1, (es0__2 ++ nw107)⟩ :: ⟨a0__4, 3, 1, es0__4⟩ :: R_) := (Mem.front (k := 3) (Mem.front (k := 3) (Mem.front (k := 3) (Mem.front (k := 3) M108 rfl) rfl) rfl) rfl)
 subst hres
 exact pn_endX .nil ⟨a103, (es0__0 ++ nw103), a107, (es0__2 ++ nw107), a0__4, es0__4, Mem.sub MZ109 (.cons_cons _ (.cons_cons _ (.cons_cons _ (.cons_cons _ (List.Sublist.refl R_))))), q103, n103, hl103, wr103, q107, n107, hl107, wr107, qs0__4, ne0__4, hl0__4, wi0__5, rfl⟩

/-- (*patchbay/action.access).sorted -/
def RF41 (i0_ w0_ : Nat) (R_ : List Ent) (res : (List y4q) × (List Int) × (List Int)) (r : PV) (h : Heap) : Prop := ∃ asR0_ : PV, ∃ esR0_ : List PV, ∃ asR1_ : PV, ∃ esR1_ : List PV, ∃ asR2_ : PV, ∃ esR2_ : List PV, Mem h (⟨asR0_, 58, 2, esR0_⟩ :: ⟨asR1_, 3, 1, esR1_⟩ :: ⟨asR2_, 3, 1, esR2_⟩ :: R_) ∧ (All2 y4q.t.R res.1 esR0_) ∧ (isL asR0_ = true) ∧ (res.1.length ≤ 4611686018427387904) ∧ (Wri asR0_ esR0_) ∧ (All2 tI.R res.2.1 esR1_) ∧ (isL asR1_ = true) ∧ (res.2.1.length ≤ 4611686018427387904) ∧ (Wri asR1_ esR1_) ∧ (All2 tI.R res.2.2 esR2_) ∧ (isL asR2_ = true) ∧ (res.2.2.length ≤ 4611686018427387904) ∧ (Wri asR2_ esR2_) ∧ r = .tup [asR0_, asR1_, asR2_]
theorem f41_ok {x0 : y32q} {a0__0 : PV} {es0__0 : List PV} {a0__2 : PV} {es0__2 : List PV} {a0__4 : PV} {es0__4 : List PV} {R_ : List Ent} {h_ : Heap} {i0_ w0_ : Nat} (qs0__0 : All2 y4q.t.R x0.fields es0__0) (ne0__0 : isL a0__0 = true) (hl0__0 : x0.fields.length ≤ 4611686018427387904) (wi0__1 : Wri a0__0 es0__0) (qs0__2 : All2 tI.R x0.headers es0__2) (ne0__2 : isL a0__2 = true) (hl0__2 : x0.headers.length ≤ 4611686018427387904) (wi0__3 : Wri a0__2 es0__2) (qs0__4 : All2 tI.R x0.registers es0__4) (ne0__4 : isL a0__4 = true) (hl0__4 : x0.registers.length ≤ 4611686018427387904) (wi0__5 : Wri a0__4 es0__4) (M_ : Mem h_ (⟨.op i0_ w0_ 0, 100, 3, [.agg [a0__0, a0__2, a0__4]]⟩ :: ⟨a0__0, 58, 2, es0__0⟩ :: ⟨a0__2, 3, 1, es0__2⟩ :: ⟨a0__4, 3, 1, es0__4⟩ :: R_)) (hb : x0.fields.length ≤ 1000000 ∧ x0.headers.length ≤ 1000000 ∧ x0.registers.length ≤ 1000000) : ∃ r h2_, FnX Try.prog 41 [.op i0_ w0_ 0] h_ r h2_ ∧ RF41 i0_ w0_ R_ (y50q x0) r h2_ := by
 obtain ⟨res, hres⟩ : ∃ res, y50q x0 = res := ⟨_, rfl⟩
 suffices H : RC Try.prog ac41 [] (retPost Try.prog [(2, none), (3, none), (4, none)] (RF41 i0_ w0_ R_ res)) (argE 0 [.op i0_ w0_ 0]) h_ by
  rw [hres]
  exact fnX text41 (by simp) H
 unfold y50q at hres
 unfold ac41
 refine y7q (y75q (y39q (rd_op (v := nilS) (y1q rfl) (y40q (y39q (rd_op (v := nilS) (y1q rfl) (y40q (y39q ?_))))))))
 refine rd_op (v := nilS) (y1q rfl) (y40q ?_)
 refine rs_freezeP (k := 0) (E' := [(4, nilS), (3, nilS), (2, nilS), (0, .fp (.agg [a0__0, a0__2, a0__4]))]) M_ rfl (frz_keep rfl (frz_keep rfl (frz_keep rfl (frz_turn rfl frz_nil)))) (fun h101 M101 => ?_)
 replace M101 : Mem h101 (⟨a0__0, 58, 2, es0__0⟩ :: ⟨a0__2, 3, 1, es0__2⟩ :: ⟨a0__4, 3, 1, es0__4⟩ :: R_) := M101
 refine rs_nil (y6q (y7q (y75q (y39q (rd_op (y1q rfl) (y40q (y39q (rd_op (y97q rfl rfl) ?_))))))))
 refine y40q (y39q (rd_op (y22q rfl (mk1 (y82q (k := 0) M101 rfl ne0__0).2)) (y40q (y39q (rd_op (y19q rfl (mem_cnt1 (k := 0) M101 rfl ne0__0) (y82q (k := 0) M101 rfl ne0__0).2) (y40q ?_))))))
 have M102 : Mem h101 (⟨a0__0, 58, 2, es0__0⟩ :: ⟨a0__2, 3, 1, es0__2⟩ :: ⟨a0__4, 3, 1, es0__4⟩ :: R_) := (Mem.front (k := 0) M101 rfl)
 obtain ⟨y102, hw102, hres⟩ := y47q hres
 obtain ⟨vr102, h103, hX102, hZ102⟩ := f32051_ok (x0 := x0.fields) qs0__0 ne0__0 hl0__0 wi0__1 M102 (by first | assumption | omega | (rw [wr_of (by omega) (by omega)]; omega))
 rw [hw102] at hZ102
 obtain ⟨es102_p0, M103, qs102_p0, hs102_p0, wi102_p0, hr102⟩ := hZ102
 replace hr102 := hr102.symm; subst hr102
 refine y86q rfl rfl hX102 (rs_nil (y6q (y7q (y75q (y39q (rd_op (y1q rfl) (y40q (y39q ?_))))))))
 refine rd_op (y97q rfl rfl) (y40q (y39q (rd_op (y22q rfl (mk1 (y82q (k := 1) M103 rfl ne0__2).2)) (y40q (y39q (rd_op (y19q rfl (mem_cnt1 (k := 1) M103 rfl ne0__2) (y82q (k := 1) M103 rfl ne0__2).2) (y40q ?_)))))))
 have M104 : Mem h103 (⟨a0__2, 3, 1, es0__2⟩ :: ⟨a0__0, 58, 2, es102_p0⟩ :: ⟨a0__4, 3, 1, es0__4⟩ :: R_) := (Mem.front (k := 1) M103 rfl)
 obtain ⟨y104, hw104, hres⟩ := y47q hres
 obtain ⟨vr104, h105, hX104, hZ104⟩ := f37_ok (x0 := x0.headers) qs0__2 ne0__2 hl0__2 wi0__3 M104 (by first | assumption | omega | (rw [wr_of (by omega) (by omega)]; omega))
 rw [hw104] at hZ104
 obtain ⟨es104_p0, M105, qs104_p0, hs104_p0, wi104_p0, hr104⟩ := hZ104
 replace hr104 := hr104.symm; subst hr104
 refine y86q rfl rfl hX104 (rs_nil (y6q (y7q (y75q (y39q (rd_op (y1q rfl) (y40q (y39q ?_))))))))
 refine rd_op (y97q rfl rfl) (y40q (y39q (rd_op (y22q rfl (mk1 (y82q (k := 2) M105 rfl ne0__4).2)) (y40q (y39q (rd_op (y19q rfl (mem_cnt1 (k := 2) M105 rfl ne0__4) (y82q (k := 2) M105 rfl ne0__4).2) (y40q ?_)))))))
 have M106 : Mem h105 (⟨a0__4, 3, 1, es0__4⟩ :: ⟨a0__2, 3, 1, es104_p0⟩ :: ⟨a0__0, 58, 2, es102_p0⟩ :: R_) := (Mem.front (k := 2) M105 rfl)
 obtain ⟨y106, hw106, hres⟩ := y47q hres
 obtain ⟨vr106, h107, hX106, hZ106⟩ := f37_ok (x0 := x0.registers) qs0__4 ne0__4 hl0__4 wi0__5 M106 (by first | assumption | omega | (rw [wr_of (by omega) (by omega)]; omega))
 rw [hw106] at hZ106
 obtain ⟨es106_p0, M107, qs106_p0, hs106_p0, wi106_p0, hr106⟩ := hZ106
 replace hr106 := hr106.symm; subst hr106
 refine y86q rfl rfl hX106 (rs_nil (y6q (y7q (rc_regionU (rx_step (rd_op (y1q rfl) (rx_back (rx_step ?_))))))))
 refine rd_op (y97q rfl rfl) (rx_back (rx_step (rd_op (y22q rfl (mk1 (y82q (k := 2) M107 rfl ne0__0).2)) (rx_back (rx_step (rd_op (y19q rfl (mem_cnt1 (k := 2) M107 rfl ne0__0) (y82q (k := 2) M107 rfl ne0__0).2) (rx_back ?_)))))))
 have M108 : Mem h107 (⟨a0__0, 58, 2, es102_p0⟩ :: ⟨a0__4, 3, 1, es106_p0⟩ :: ⟨a0__2, 3, 1, es104_p0⟩ :: R_) := (Mem.front (k := 2) M107 rfl)
 obtain ⟨y108, hw108, hres⟩ := y47q hres
 obtain ⟨vr108, h110, hX108, hZ108⟩ := f36_ok (x0 := y102) qs102_p0 ne0__0 hs102_p0 wi102_p0 M108 
 rw [hw108] at hZ108
 obtain ⟨as108_0, es108_0, M110, qs108_0, ns108_0, hs108_0, wi108_0, hr108⟩ := hZ108
 replace hr108 := hr108.symm; subst hr108
 refine rx_callXc rfl rfl hX108 (rx_step (rd_op (y1q rfl) (rx_back (rx_step (rd_op (y97q rfl rfl) (rx_back (rx_step (rd_op (y22q rfl (mk1 (y82q (k := 2) M110 rfl ne0__2).2)) ?_))))))))
 refine rx_back (rx_step (rd_op (y19q rfl (mem_cnt1 (k := 2) M110 rfl ne0__2) (y82q (k := 2) M110 rfl ne0__2).2) (rx_back ?_)))
 have M111 : Mem h110 (⟨a0__2, 3, 1, es104_p0⟩ :: ⟨as108_0, 58, 2, es108_0⟩ :: ⟨a0__4, 3, 1, es106_p0⟩ :: R_) := (Mem.front (k := 2) M110 rfl)
 obtain ⟨y111, hw111, hres⟩ := y47q hres
 obtain ⟨vr111, h113, hX111, hZ111⟩ := f38_ok (x0 := y104) qs104_p0 ne0__2 hs104_p0 wi104_p0 M111 
 rw [hw111] at hZ111
 obtain ⟨as111_0, es111_0, M113, qs111_0, ns111_0, hs111_0, wi111_0, hr111⟩ := hZ111
 replace hr111 := hr111.symm; subst hr111
 refine rx_callXc rfl rfl hX111 (rx_step (rd_op (y1q rfl) (rx_back (rx_step (rd_op (y97q rfl rfl) (rx_back (rx_step (rd_op (y22q rfl (mk1 (y82q (k := 2) M113 rfl ne0__4).2)) ?_))))))))
 refine rx_back (rx_step (rd_op (y19q rfl (mem_cnt1 (k := 2) M113 rfl ne0__4) (y82q (k := 2) M113 rfl ne0__4).2) (rx_back ?_)))
 have M114 : Mem h113 (⟨a0__4, 3, 1, es106_p0⟩ :: ⟨as111_0, 3, 1, es111_0⟩ :: ⟨as108_0, 58, 2, es108_0⟩ :: R_) := (Mem.front (k := 2) M113 rfl)
 obtain ⟨y114, hw114, hres⟩ := y47q hres
 obtain ⟨vr114, h116, hX114, hZ114⟩ := f38_ok (x0 := y106) qs106_p0 ne0__4 hs106_p0 wi106_p0 M114 
 rw [hw114] at hZ114
 obtain ⟨as114_0, es114_0, M116, qs114_0, ns114_0, hs114_0, wi114_0, hr114⟩ := hZ114
 replace hr114 := hr114.symm; subst hr114
 refine rx_callXc rfl rfl hX114 (rx_step (rd_op (y1q rfl) (rx_back (rx_step (rd_op (y1q rfl) (rx_back (rx_step (rd_op (y1q rfl) ?_))))))))
 refine rx_back (rx_nil (y6q ?_))
 have MZ117 : Mem h116 (⟨as108_0, 58, 2, es108_0⟩ :: ⟨as111_0, 3, 1, es111_0⟩ :: ⟨as114_0, 3, 1, es114_0⟩ :: R_) := (Mem.front (k := 2) (Mem.front (k := 1) (Mem.front (k := 0) M116 rfl) rfl) rfl)
 subst hres
 exact rc_retX (.tmp rfl (.tmp rfl (.tmp rfl .nil))) ⟨as108_0, es108_0, as111_0, es111_0, as114_0, es114_0, Mem.sub MZ117 (.cons_cons _ (.cons_cons _ (.cons_cons _ (List.Sublist.refl R_)))), qs108_0, ns108_0, hs108_0, wi108_0, qs111_0, ns111_0, hs111_0, wi111_0, qs114_0, ns114_0, hs114_0, wi114_0, rfl⟩

/-- patchbay/action.Reads -/
def RF25 (res : (List y4q) × (List Int) × (List Int)) (r : PV) : Prop := ∃ c0, ∃ c1, ∃ c2, r = .tup [c0, c1, c2] ∧ (tSl y4q.t).R res.1 c0 ∧ (tSl tI).R res.2.1 c1 ∧ (tSl tI).R res.2.2 c2
theorem action_Reads_L1_ok {S : List Fr} {res : (List y4q) × (List Int) × (List Int)} {x0 : y5q} {x1 : Int} {y103 : (List y13q)} {v104 : PV} {i101 : Nat} {w101 : Nat} (hw103 : action_body x0 x1 = y103) (r104 : (tSl y13q.t).R y103 v104) (ek103 : BO x0 y103) (el103 : y103.length ≤ 12) {K0 : y32q → ((List y4q) × (List Int) × (List Int))}
  (hK0 : ∀ (zE102 : y32q) (awE102_0 : PV) (eswE102_0 : List PV) (awE102_2 : PV) (eswE102_2 : List PV) (awE102_4 : PV) (eswE102_4 : List PV) (qswE102_0 : All2 y4q.t.R zE102.fields eswE102_0) (newE102_0 : isL awE102_0 = true) (hlwE102_0 : zE102.fields.length ≤ 4611686018427387904) (wiwE102_1 : Wri awE102_0 eswE102_0) (qswE102_2 : All2 tI.R zE102.headers eswE102_2) (newE102_2 : isL awE102_2 = true) (hlwE102_2 : zE102.headers.length ≤ 4611686018427387904) (wiwE102_3 : Wri awE102_2 eswE102_2) (qswE102_4 : All2 tI.R zE102.registers eswE102_4) (newE102_4 : isL awE102_4 = true) (hlwE102_4 : zE102.registers.length ≤ 4611686018427387904) (wiwE102_5 : Wri awE102_4 eswE102_4) (po0 : zE102.fields.length ≤ 600 ∧ zE102.headers.length ≤ 600 ∧ zE102.registers.length ≤ 600) (h : Heap) (M0 : Mem h [⟨awE102_4, 3, 1, eswE102_4⟩, ⟨awE102_2, 3, 1, eswE102_2⟩, ⟨awE102_0, 58, 2, eswE102_0⟩, ⟨.op i101 w101 0, 100, 3, [.agg [awE102_0, awE102_2, awE102_4]]⟩]), K0 zE102 = res → PX Try.prog 0 S (QR Try.prog [(4, none), (5, none), (6, none)] (RF25 res)) [(7, .op i101 w101 0)] h) :
  ∀ (m : Nat) (x14_ : Int) (zE102 : y32q) (awE102_0 : PV) (eswE102_0 : List PV) (awE102_2 : PV) (eswE102_2 : List PV) (awE102_4 : PV) (eswE102_4 : List PV) (qswE102_0 : All2 y4q.t.R zE102.fields eswE102_0) (newE102_0 : isL awE102_0 = true) (hlwE102_0 : zE102.fields.length ≤ 4611686018427387904) (wiwE102_1 : Wri awE102_0 eswE102_0) (qswE102_2 : All2 tI.R zE102.headers eswE102_2) (newE102_2 : isL awE102_2 = true) (hlwE102_2 : zE102.headers.length ≤ 4611686018427387904) (wiwE102_3 : Wri awE102_2 eswE102_2) (qswE102_4 : All2 tI.R zE102.registers eswE102_4) (newE102_4 : isL awE102_4 = true) (hlwE102_4 : zE102.registers.length ≤ 4611686018427387904) (wiwE102_5 : Wri awE102_4 eswE102_4) (hm1 : m = Int.toNat ((y103.length : Int) - x14_)) (hlo1 : 0 ≤ x14_) (iv1_0 : (zE102.fields.length : Int) ≤ 50 * x14_) (iv1_1 : (zE102.headers.length : Int) ≤ 50 * x14_) (iv1_2 : (zE102.registers.length : Int) ≤ 50 * x14_) (iv1_3 : x14_ ≤ (y103.length : Int)) (h : Heap) (M0 : Mem h [⟨awE102_4, 3, 1, eswE102_4⟩, ⟨awE102_2, 3, 1, eswE102_2⟩, ⟨awE102_0, 58, 2, eswE102_0⟩, ⟨.op i101 w101 0, 100, 3, [.agg [awE102_0, awE102_2, awE102_4]]⟩]), y66q y103 K0 m x14_ zE102 = res → RC Try.prog (.loop ac25_L1) S (QR Try.prog [(4, none), (5, none), (6, none)] (RF25 res)) [(14, vi x14_), (13, vi (y103.length : Int)), (12, v104), (7, .op i101 w101 0)] h := by
 intro m
 induction m with
 | zero =>
  intro x14_ zE102 awE102_0 eswE102_0 awE102_2 eswE102_2 awE102_4 eswE102_4 qswE102_0 newE102_0 hlwE102_0 wiwE102_1 qswE102_2 newE102_2 hlwE102_2 wiwE102_3 qswE102_4 newE102_4 hlwE102_4 wiwE102_5 hm1 hlo1 iv1_0 iv1_1 iv1_2 iv1_3 h M0 hres
  rw [y66q] at hres
  refine y53q ?_
  unfold ac25_L1
  refine y7q (y2q (rd_op (y20q rfl rfl i_lss) (y10q (y6q (y7q ?_)))))
  refine y24q rfl (fun hc111 => ?_) (fun hc111 => ?_)
  ·exfalso
   try simp only [qa, qaD] at hc111
   omega
  ·have hend := hres
   have hc111' := hc111
   try simp only [qa, qaD] at hc111'
   refine y93q (px_seq (y78q ?_))
   exact y96q ((y3q rfl (y31q _))) (hK0 ({ fields := zE102.fields, headers := zE102.headers, registers := zE102.registers } : y32q) awE102_0 eswE102_0 awE102_2 eswE102_2 awE102_4 eswE102_4 qswE102_0 newE102_0 hlwE102_0 wiwE102_1 qswE102_2 newE102_2 hlwE102_2 wiwE102_3 qswE102_4 newE102_4 hlwE102_4 wiwE102_5 (by omega) _ (Mem.sub M0 (.cons_cons _ (.cons_cons _ (.cons_cons _ (.cons_cons _ .slnil))))) hres)
 | succ m ih =>
  intro x14_ zE102 awE102_0 eswE102_0 awE102_2 eswE102_2 awE102_4 eswE102_4 qswE102_0 newE102_0 hlwE102_0 wiwE102_1 qswE102_2 newE102_2 hlwE102_2 wiwE102_3 qswE102_4 newE102_4 hlwE102_4 wiwE102_5 hm1 hlo1 iv1_0 iv1_1 iv1_2 iv1_3 h M0 hres
  rw [y66q] at hres
  refine y53q ?_
  unfold ac25_L1
  refine y7q (y2q (rd_op (y20q rfl rfl i_lss) (y10q (y6q (y7q ?_)))))
  refine y24q rfl (fun hc112 => ?_) (fun hc112 => ?_)
  ·have hgo := hres
   have hc112' := hc112
   try simp only [qa, qaD] at hc112'
   refine y34q (y6q (y7q (y42q (y7q (y2q ?_)))))
   obtain ⟨v113, e113, r113⟩ := y106q (i := x14_) r104 (by omega) (by omega)
   refine rd_op (y48q rfl rfl e113) (rd_op (y19q rfl (TR.cnt y13q.t r113) (TR.agg y13q.t r113)) ?_)
   refine y94q (x := .agg [vi 0, vi 0, vi 0, vi 0, vi 0, nilS, nilS]) M0 rfl rfl (fun i114 w114 h114 M114 => ?_)
   refine y89q (k := 0) (v := v113) M114 rfl rfl rfl (TR.cnt y13q.t r113) (fun h116 M116 => ?_)
   replace M116 : Mem h116 [⟨.op i114 w114 0, 87, 7, [v113]⟩, ⟨awE102_4, 3, 1, eswE102_4⟩, ⟨awE102_2, 3, 1, eswE102_2⟩, ⟨awE102_0, 58, 2, eswE102_0⟩, ⟨.op i101 w101 0, 100, 3, [.agg [awE102_0, awE102_2, awE102_4]]⟩] := M116
   refine y10q (y6q (y7q (y7q (y2q (rd_op (y33q rfl) (rd_op (y43q (k := 0) M116 rfl rfl (y13q.g_Kind r113)) (y10q (y6q ?_))))))))
   refine y42q (y7q (y2q (rd_op (y20q rfl rfl i_eql) (rd_op (y1q rfl) (y10q (y6q ?_))))))
   refine y24q rfl (fun hc117 => ?_) (fun hc117 => ?_)
   ·replace hres := (ite_t hc117).symm.trans hres
    have hc117' := hc117
    try simp only [qa, qaD] at hc117'
    refine y75q (y39q (rd_op (y33q rfl) (y40q (y39q ?_))))
    obtain ⟨v119, e119, r119⟩ := y13q.g_Value r113
    refine rd_op (y43q (k := 0) M116 rfl rfl e119) (y40q ?_)
    have M120 : Mem h116 [⟨.op i101 w101 0, 100, 3, [.agg [awE102_0, awE102_2, awE102_4]]⟩, ⟨awE102_0, 58, 2, eswE102_0⟩, ⟨awE102_2, 3, 1, eswE102_2⟩, ⟨awE102_4, 3, 1, eswE102_4⟩, ⟨.op i114 w114 0, 87, 7, [v113]⟩] := (Mem.front (k := 4) (Mem.front (k := 3) (Mem.front (k := 2) (Mem.front (k := 1) M116 rfl) rfl) rfl) rfl)
    obtain ⟨y120, hw120, hres⟩ := y47q hres
    obtain ⟨vr120, h121, hX120, hZ120⟩ := f40_ok (x0 := ({ fields := zE102.fields, headers := zE102.headers, registers := zE102.registers } : y32q)) (x1 := ((ix y103 x14_).Value)) r119 qswE102_0 newE102_0 hlwE102_0 wiwE102_1 qswE102_2 newE102_2 hlwE102_2 wiwE102_3 qswE102_4 newE102_4 hlwE102_4 wiwE102_5 M120 (by first | (have hk := bo_v (l := y103) (k := x14_) (by assumption) (by omega) (by omega) (by omega); omega) | (have hk := bo_i (l := y103) (k := x14_) (by assumption) (by omega) (by omega) (by omega); omega) | (have hk1 := bo_v (l := y103) (k := x14_) (by assumption) (by omega) (by omega) (by omega); have hk2 := bo_i (l := y103) (k := x14_) (by assumption) (by omega) (by omega) (by omega); omega))
    rw [hw120] at hZ120
    obtain ⟨a120_0_0, es120_0_0, a120_0_2, es120_0_2, a120_0_4, es120_0_4, M121, qs120_0_0, ne120_0_0, hl120_0_0, wi120_0_1, qs120_0_2, ne120_0_2, hl120_0_2, wi120_0_3, qs120_0_4, ne120_0_4, hl120_0_4, wi120_0_5, hr120⟩ := hZ120
    replace hr120 := hr120.symm; subst hr120
    refine y86q rfl rfl hX120 ?_
    have ek120 := expression_len hw120; try dsimp only at ek120
    refine rs_nil (y67q (y6q (y7q (y2q (rd_op (y33q rfl) (rd_op (y43q (k := 4) M121 rfl rfl (y13q.g_Kind r113)) (rd_op (y20q rfl rfl i_eql) (rd_op (y1q rfl) ?_))))))))
    refine y63q (d := 61) (v := vb ((decide (((ix y103 x14_).Kind) = 1)) || (decide (((ix y103 x14_).Kind) = 4)))) ?_ ?_
    ·intro S Q r
     simp only [ac25_G1, List.cons_append, List.nil_append, List.append_assoc]
     cases hb122 : (decide (((ix y103 x14_).Kind) = 1))
     ·intro k
      have hb122' := hb122
      try simp only [qa, qaD] at hb122'
      refine y18q rfl rfl (y33q rfl) (y18q rfl rfl (y43q (k := 4) M121 rfl rfl (y13q.g_Kind r113)) (y18q rfl rfl (y20q rfl rfl i_eql) (rd_op (v := vb (decide (((ix y103 x14_).Kind) = 4))) (y30q rfl rfl rfl rfl) ?_)))
      exact y29q (y3q rfl (y0q rfl (y0q rfl (y0q rfl (y0q rfl (y25q _)))))) k
     ·intro k
      refine y12q rfl rfl (y12q rfl rfl (y12q rfl rfl (rd_op (v := vb true) (y30q rfl rfl rfl rfl) ?_)))
      exact y29q (y3q rfl (y0q rfl (y0q rfl (y0q rfl (y0q rfl (y25q _)))))) k
    refine rd_op (y1q rfl) ?_
    refine y63q (d := 67) (v := vb (((decide (((ix y103 x14_).Kind) = 1)) || (decide (((ix y103 x14_).Kind) = 4))) && (!decide ((((ix y103 x14_).Dst).Header) = (-1))))) ?_ ?_
    ·intro S Q r
     simp only [ac25_G2, List.cons_append, List.nil_append, List.append_assoc]
     cases hb123 : ((decide (((ix y103 x14_).Kind) = 1)) || (decide (((ix y103 x14_).Kind) = 4)))
     ·intro k
      refine y12q rfl rfl (y12q rfl rfl (y12q rfl rfl (y12q rfl rfl (rd_op (v := vb false) (y30q rfl rfl rfl rfl) ?_))))
      exact y29q (y3q rfl (y0q rfl (y0q rfl (y0q rfl (y0q rfl (y0q rfl (y25q _))))))) k
     ·intro k
      have hb123' := hb123
      try simp only [qa, qaD] at hb123'
      refine y18q rfl rfl (y33q rfl) (y18q rfl rfl (y33q rfl) ?_)
      obtain ⟨v124, e124, r124⟩ := y13q.g_Dst r113
      refine y18q rfl rfl (y43q (k := 4) M121 rfl rfl (field_field e124 (y4q.g_Header r124))) (y18q rfl rfl (y20q rfl rfl i_neq) (rd_op (v := vb (!decide ((((ix y103 x14_).Dst).Header) = (-1)))) (y30q rfl rfl rfl rfl) ?_))
      exact y29q (y3q rfl (y0q rfl (y0q rfl (y0q rfl (y0q rfl (y0q rfl (y25q _))))))) k
    refine y10q (y6q ?_)
    refine y24q rfl (fun hc125 => ?_) (fun hc125 => ?_)
    ·replace hres := (ite_t hc125).symm.trans hres
     have hc125' := hc125
     try simp only [qa, qaD] at hc125'
     refine y2q (rd_op (y33q rfl) (rd_op (y43q (k := 0) M121 rfl rfl (mk1 (y82q (k := 2) M121 rfl ne120_0_2).2)) (rd_op (y33q rfl) (rd_op (y33q rfl) ?_))))
     obtain ⟨v126, e126, r126⟩ := y13q.g_Dst r113
     refine rd_op (y43q (k := 4) M121 rfl rfl (field_field e126 (y4q.g_Header r126))) (rd_op (v := .fs true [vi (((ix y103 x14_).Dst).Header)]) (ov_bslice rfl (all_cons rfl all_nil)) ?_)
     have r127 : (tSl tI).R ([((ix y103 x14_).Dst).Header] : List Int) (.fs true [vi (((ix y103 x14_).Dst).Header)]) := sl_fs ⟨rfl, trivial⟩ (by simp)
     obtain ⟨nw128, sr128, ar128⟩ := src_of (t := tI) (h := h121) r127
     have f128 : fits (es120_0_2.length + nw128.length) 8 = true := by rw [All2.length_eq qs120_0_2, All2.length_eq ar128]; (try simp only [List.length_cons, List.length_nil]); exact fits_of (by first | (have hk := bo_v (l := y103) (k := x14_) (by assumption) (by omega) (by omega) (by omega); omega) | (have hk := bo_i (l := y103) (k := x14_) (by assumption) (by omega) (by omega) (by omega); omega) | (have hk1 := bo_v (l := y103) (k := x14_) (by assumption) (by omega) (by omega) (by omega); have hk2 := bo_i (l := y103) (k := x14_) (by assumption) (by omega) (by omega) (by omega); omega) | omega) (by first | (have hk := bo_v (l := y103) (k := x14_) (by assumption) (by omega) (by omega) (by omega); omega) | (have hk := bo_i (l := y103) (k := x14_) (by assumption) (by omega) (by omega) (by omega); omega) | (have hk1 := bo_v (l := y103) (k := x14_) (by assumption) (by omega) (by omega) (by omega); have hk2 := bo_i (l := y103) (k := x14_) (by assumption) (by omega) (by omega) (by omega); omega) | omega)
     refine rd_appW (k := 2) (es := es120_0_2) (news := nw128) M121 rfl rfl rfl ne120_0_2 wi120_0_3 sr128 f128 (fun a128 h128 n128 wr128 M128 => ?_)
     have q128 : All2 tI.R (y120.headers ++ ([((ix y103 x14_).Dst).Header] : List Int)) (es120_0_2 ++ nw128) := All2.app qs120_0_2 ar128
     have hl128 : (y120.headers ++ ([((ix y103 x14_).Dst).Header] : List Int)).length ≤ 4611686018427387904 := by rw [← All2.length_eq q128, List.length_append]; exact fits_len f128
     refine rd_op (y33q rfl) ?_
     refine rd_storeF (k := 0) (v := a128) M128 rfl rfl rfl (y82q (k := 2) M128 rfl n128).1 rfl (by first | decide | (simp only [List.length_cons, List.length_nil]; omega) | simp) (fun h129 M129 => ?_)
     replace M129 : Mem h129 [⟨.op i101 w101 0, 100, 3, [.agg [a120_0_0, a128, a120_0_4]]⟩, ⟨a120_0_0, 58, 2, es120_0_0⟩, ⟨a128, 3, 1, (es120_0_2 ++ nw128)⟩, ⟨a120_0_4, 3, 1, es120_0_4⟩, ⟨.op i114 w114 0, 87, 7, [v113]⟩] := M129
     refine y10q (y67q (y6q (y2q (rd_op (y20q rfl rfl i_add) (rd_op (y1q rfl) (y10q ?_))))))
     have MO130 : Mem h129 [⟨a120_0_4, 3, 1, es120_0_4⟩, ⟨a128, 3, 1, (es120_0_2 ++ nw128)⟩, ⟨a120_0_0, 58, 2, es120_0_0⟩, ⟨.op i101 w101 0, 100, 3, [.agg [a120_0_0, a128, a120_0_4]]⟩, ⟨.op i114 w114 0, 87, 7, [v113]⟩] := (Mem.front (k := 3) (Mem.front (k := 2) (Mem.front (k := 1) (Mem.front (k := 0) M129 rfl) rfl) rfl) rfl)
     refine y56q ?_
     have hbd := y58q r104
     have hinc : wr (x14_ + 1) = x14_ + 1 := wr_of (by omega) (by omega)
     rw [hinc]
     refine y37q ?_ (ih (x14_ + 1) ({ fields := y120.fields, headers := (y120.headers ++ ([((ix y103 x14_).Dst).Header] : List Int)), registers := y120.registers } : y32q) a120_0_0 es120_0_0 a128 (es120_0_2 ++ nw128) a120_0_4 es120_0_4 qs120_0_0 ne120_0_0 hl120_0_0 wi120_0_1 q128 n128 hl128 wr128 qs120_0_4 ne120_0_4 hl120_0_4 wi120_0_5 (by omega) (by omega) (by first | omega | ((try simp only [List.length_append, List.length_cons, List.length_nil]); first | omega | (have hk := bo_v (l := y103) (k := x14_) (by assumption) (by omega) (by omega) (by omega); omega) | (have hk := bo_i (l := y103) (k := x14_) (by assumption) (by omega) (by omega) (by omega); omega) | (have hk1 := bo_v (l := y103) (k := x14_) (by assumption) (by omega) (by omega) (by omega); have hk2 := bo_i (l := y103) (k := x14_) (by assumption) (by omega) (by omega) (by omega); omega))) (by first | omega | ((try simp only [List.length_append, List.length_cons, List.length_nil]); first | omega | (have hk := bo_v (l := y103) (k := x14_) (by assumption) (by omega) (by omega) (by omega); omega) | (have hk := bo_i (l := y103) (k := x14_) (by assumption) (by omega) (by omega) (by omega); omega) | (have hk1 := bo_v (l := y103) (k := x14_) (by assumption) (by omega) (by omega) (by omega); have hk2 := bo_i (l := y103) (k := x14_) (by assumption) (by omega) (by omega) (by omega); omega))) (by first | omega | ((try simp only [List.length_append, List.length_cons, List.length_nil]); first | omega | (have hk := bo_v (l := y103) (k := x14_) (by assumption) (by omega) (by omega) (by omega); omega) | (have hk := bo_i (l := y103) (k := x14_) (by assumption) (by omega) (by omega) (by omega); omega) | (have hk1 := bo_v (l := y103) (k := x14_) (by assumption) (by omega) (by omega) (by omega); have hk2 := bo_i (l := y103) (k := x14_) (by assumption) (by omega) (by omega) (by omega); omega))) (by first | omega | ((try simp only [List.length_append, List.length_cons, List.length_nil]); first | omega | (have hk := bo_v (l := y103) (k := x14_) (by assumption) (by omega) (by omega) (by omega); omega) | (have hk := bo_i (l := y103) (k := x14_) (by assumption) (by omega) (by omega) (by omega); omega) | (have hk1 := bo_v (l := y103) (k := x14_) (by assumption) (by omega) (by omega) (by omega); have hk2 := bo_i (l := y103) (k := x14_) (by assumption) (by omega) (by omega) (by omega); omega))) _ (Mem.sub MO130 (.cons_cons _ (.cons_cons _ (.cons_cons _ (.cons_cons _ (.cons _ .slnil)))))) hres)
     exact ((y3q rfl (y3q rfl (y3q rfl (y3q rfl (y31q _))))))
    ·replace hres := (ite_f hc125).symm.trans hres
     have hc125' := hc125
     try simp only [qa, qaD] at hc125'
     refine y34q (y67q (y6q (y2q (rd_op (y20q rfl rfl i_add) (rd_op (y1q rfl) (y10q ?_))))))
     have MO131 : Mem h121 [⟨a120_0_4, 3, 1, es120_0_4⟩, ⟨a120_0_2, 3, 1, es120_0_2⟩, ⟨a120_0_0, 58, 2, es120_0_0⟩, ⟨.op i101 w101 0, 100, 3, [.agg [a120_0_0, a120_0_2, a120_0_4]]⟩, ⟨.op i114 w114 0, 87, 7, [v113]⟩] := (Mem.front (k := 3) (Mem.front (k := 2) (Mem.front (k := 1) (Mem.front (k := 0) M121 rfl) rfl) rfl) rfl)
     refine y56q ?_
     have hbd := y58q r104
     have hinc : wr (x14_ + 1) = x14_ + 1 := wr_of (by omega) (by omega)
     rw [hinc]
     refine y37q ?_ (ih (x14_ + 1) ({ fields := y120.fields, headers := y120.headers, registers := y120.registers } : y32q) a120_0_0 es120_0_0 a120_0_2 es120_0_2 a120_0_4 es120_0_4 qs120_0_0 ne120_0_0 hl120_0_0 wi120_0_1 qs120_0_2 ne120_0_2 hl120_0_2 wi120_0_3 qs120_0_4 ne120_0_4 hl120_0_4 wi120_0_5 (by omega) (by omega) (by first | omega | ((try simp only [List.length_append, List.length_cons, List.length_nil]); first | omega | (have hk := bo_v (l := y103) (k := x14_) (by assumption) (by omega) (by omega) (by omega); omega) | (have hk := bo_i (l := y103) (k := x14_) (by assumption) (by omega) (by omega) (by omega); omega) | (have hk1 := bo_v (l := y103) (k := x14_) (by assumption) (by omega) (by omega) (by omega); have hk2 := bo_i (l := y103) (k := x14_) (by assumption) (by omega) (by omega) (by omega); omega))) (by first | omega | ((try simp only [List.length_append, List.length_cons, List.length_nil]); first | omega | (have hk := bo_v (l := y103) (k := x14_) (by assumption) (by omega) (by omega) (by omega); omega) | (have hk := bo_i (l := y103) (k := x14_) (by assumption) (by omega) (by omega) (by omega); omega) | (have hk1 := bo_v (l := y103) (k := x14_) (by assumption) (by omega) (by omega) (by omega); have hk2 := bo_i (l := y103) (k := x14_) (by assumption) (by omega) (by omega) (by omega); omega))) (by first | omega | ((try simp only [List.length_append, List.length_cons, List.length_nil]); first | omega | (have hk := bo_v (l := y103) (k := x14_) (by assumption) (by omega) (by omega) (by omega); omega) | (have hk := bo_i (l := y103) (k := x14_) (by assumption) (by omega) (by omega) (by omega); omega) | (have hk1 := bo_v (l := y103) (k := x14_) (by assumption) (by omega) (by omega) (by omega); have hk2 := bo_i (l := y103) (k := x14_) (by assumption) (by omega) (by omega) (by omega); omega))) (by first | omega | ((try simp only [List.length_append, List.length_cons, List.length_nil]); first | omega | (have hk := bo_v (l := y103) (k := x14_) (by assumption) (by omega) (by omega) (by omega); omega) | (have hk := bo_i (l := y103) (k := x14_) (by assumption) (by omega) (by omega) (by omega); omega) | (have hk1 := bo_v (l := y103) (k := x14_) (by assumption) (by omega) (by omega) (by omega); have hk2 := bo_i (l := y103) (k := x14_) (by assumption) (by omega) (by omega) (by omega); omega))) _ (Mem.sub MO131 (.cons_cons _ (.cons_cons _ (.cons_cons _ (.cons_cons _ (.cons _ .slnil)))))) hres)
     exact ((y3q rfl (y3q rfl (y3q rfl (y3q rfl (y31q _))))))
   ·replace hres := (ite_f hc117).symm.trans hres
    have hc117' := hc117
    try simp only [qa, qaD] at hc117'
    refine y7q (y2q (rd_op (y20q rfl rfl i_eql) (rd_op (y1q rfl) (y10q (y6q ?_)))))
    refine y24q rfl (fun hc132 => ?_) (fun hc132 => ?_)
    ·replace hres := (ite_t hc132).symm.trans hres
     have hc132' := hc132
     try simp only [qa, qaD] at hc132'
     refine y2q (rd_op (y33q rfl) (rd_op (y43q (k := 4) M116 rfl rfl (mk1 (y82q (k := 2) M116 rfl newE102_2).2)) (rd_op (y33q rfl) (rd_op (y43q (k := 0) M116 rfl rfl (y13q.g_Header r113)) (rd_op (v := .fs true [vi ((ix y103 x14_).Header)]) (ov_bslice rfl (all_cons rfl all_nil)) ?_)))))
     have r133 : (tSl tI).R ([(ix y103 x14_).Header] : List Int) (.fs true [vi ((ix y103 x14_).Header)]) := sl_fs ⟨rfl, trivial⟩ (by simp)
     obtain ⟨nw134, sr134, ar134⟩ := src_of (t := tI) (h := h116) r133
     have f134 : fits (eswE102_2.length + nw134.length) 8 = true := by rw [All2.length_eq qswE102_2, All2.length_eq ar134]; (try simp only [List.length_cons, List.length_nil]); exact fits_of (by first | (have hk := bo_v (l := y103) (k := x14_) (by assumption) (by omega) (by omega) (by omega); omega) | (have hk := bo_i (l := y103) (k := x14_) (by assumption) (by omega) (by omega) (by omega); omega) | (have hk1 := bo_v (l := y103) (k := x14_) (by assumption) (by omega) (by omega) (by omega); have hk2 := bo_i (l := y103) (k := x14_) (by assumption) (by omega) (by omega) (by omega); omega) | omega) (by first | (have hk := bo_v (l := y103) (k := x14_) (by assumption) (by omega) (by omega) (by omega); omega) | (have hk := bo_i (l := y103) (k := x14_) (by assumption) (by omega) (by omega) (by omega); omega) | (have hk1 := bo_v (l := y103) (k := x14_) (by assumption) (by omega) (by omega) (by omega); have hk2 := bo_i (l := y103) (k := x14_) (by assumption) (by omega) (by omega) (by omega); omega) | omega)
     refine rd_appW (k := 2) (es := eswE102_2) (news := nw134) M116 rfl rfl rfl newE102_2 wiwE102_3 sr134 f134 (fun a134 h134 n134 wr134 M134 => ?_)
     have q134 : All2 tI.R (zE102.headers ++ ([(ix y103 x14_).Header] : List Int)) (eswE102_2 ++ nw134) := All2.app qswE102_2 ar134
     have hl134 : (zE102.headers ++ ([(ix y103 x14_).Header] : List Int)).length ≤ 4611686018427387904 := by rw [← All2.length_eq q134, List.length_append]; exact fits_len f134
     refine rd_op (y33q rfl) ?_
     refine rd_storeF (k := 4) (v := a134) M134 rfl rfl rfl (y82q (k := 2) M134 rfl n134).1 rfl (by first | decide | (simp only [List.length_cons, List.length_nil]; omega) | simp) (fun h135 M135 => ?_)
     replace M135 : Mem h135 [⟨.op i114 w114 0, 87, 7, [v113]⟩, ⟨awE102_4, 3, 1, eswE102_4⟩, ⟨a134, 3, 1, (eswE102_2 ++ nw134)⟩, ⟨awE102_0, 58, 2, eswE102_0⟩, ⟨.op i101 w101 0, 100, 3, [.agg [awE102_0, a134, awE102_4]]⟩] := M135
     refine y10q (y67q (y6q (y7q (y2q (rd_op (y33q rfl) (rd_op (y43q (k := 0) M135 rfl rfl (y13q.g_Kind r113)) (rd_op (y20q rfl rfl i_eql) (rd_op (y1q rfl) ?_))))))))
     refine y63q (d := 61) (v := vb ((decide (((ix y103 x14_).Kind) = 1)) || (decide (((ix y103 x14_).Kind) = 4)))) ?_ ?_
     ·intro S Q r
      simp only [ac25_G1, List.cons_append, List.nil_append, List.append_assoc]
      cases hb136 : (decide (((ix y103 x14_).Kind) = 1))
      ·intro k
       have hb136' := hb136
       try simp only [qa, qaD] at hb136'
       refine y18q rfl rfl (y33q rfl) (y18q rfl rfl (y43q (k := 0) M135 rfl rfl (y13q.g_Kind r113)) (y18q rfl rfl (y20q rfl rfl i_eql) (rd_op (v := vb (decide (((ix y103 x14_).Kind) = 4))) (y30q rfl rfl rfl rfl) ?_)))
       exact y29q (y3q rfl (y0q rfl (y0q rfl (y0q rfl (y0q rfl (y25q _)))))) k
      ·intro k
       refine y12q rfl rfl (y12q rfl rfl (y12q rfl rfl (rd_op (v := vb true) (y30q rfl rfl rfl rfl) ?_)))
       exact y29q (y3q rfl (y0q rfl (y0q rfl (y0q rfl (y0q rfl (y25q _)))))) k
     refine rd_op (y1q rfl) ?_
     refine y63q (d := 67) (v := vb (((decide (((ix y103 x14_).Kind) = 1)) || (decide (((ix y103 x14_).Kind) = 4))) && (!decide ((((ix y103 x14_).Dst).Header) = (-1))))) ?_ ?_
     ·intro S Q r
      simp only [ac25_G2, List.cons_append, List.nil_append, List.append_assoc]
      cases hb137 : ((decide (((ix y103 x14_).Kind) = 1)) || (decide (((ix y103 x14_).Kind) = 4)))
      ·intro k
       refine y12q rfl rfl (y12q rfl rfl (y12q rfl rfl (y12q rfl rfl (rd_op (v := vb false) (y30q rfl rfl rfl rfl) ?_))))
       exact y29q (y3q rfl (y0q rfl (y0q rfl (y0q rfl (y0q rfl (y0q rfl (y25q _))))))) k
      ·intro k
       have hb137' := hb137
       try simp only [qa, qaD] at hb137'
       refine y18q rfl rfl (y33q rfl) (y18q rfl rfl (y33q rfl) ?_)
       obtain ⟨v138, e138, r138⟩ := y13q.g_Dst r113
       refine y18q rfl rfl (y43q (k := 0) M135 rfl rfl (field_field e138 (y4q.g_Header r138))) (y18q rfl rfl (y20q rfl rfl i_neq) (rd_op (v := vb (!decide ((((ix y103 x14_).Dst).Header) = (-1)))) (y30q rfl rfl rfl rfl) ?_))
       exact y29q (y3q rfl (y0q rfl (y0q rfl (y0q rfl (y0q rfl (y0q rfl (y25q _))))))) k
     refine y10q (y6q ?_)
     refine y24q rfl (fun hc139 => ?_) (fun hc139 => ?_)
     ·replace hres := (ite_t hc139).symm.trans hres
      have hc139' := hc139
      try simp only [qa, qaD] at hc139'
      refine y2q (rd_op (y33q rfl) (rd_op (y43q (k := 4) M135 rfl rfl (mk1 (y82q (k := 2) M135 rfl n134).2)) (rd_op (y33q rfl) (rd_op (y33q rfl) ?_))))
      obtain ⟨v140, e140, r140⟩ := y13q.g_Dst r113
      refine rd_op (y43q (k := 0) M135 rfl rfl (field_field e140 (y4q.g_Header r140))) (rd_op (v := .fs true [vi (((ix y103 x14_).Dst).Header)]) (ov_bslice rfl (all_cons rfl all_nil)) ?_)
      have r141 : (tSl tI).R ([((ix y103 x14_).Dst).Header] : List Int) (.fs true [vi (((ix y103 x14_).Dst).Header)]) := sl_fs ⟨rfl, trivial⟩ (by simp)
      obtain ⟨nw142, sr142, ar142⟩ := src_of (t := tI) (h := h135) r141
      have f142 : fits ((eswE102_2 ++ nw134).length + nw142.length) 8 = true := by rw [All2.length_eq q134, All2.length_eq ar142]; (try simp only [List.length_cons, List.length_nil]); exact fits_of (by first | (have hk := bo_v (l := y103) (k := x14_) (by assumption) (by omega) (by omega) (by omega); omega) | (have hk := bo_i (l := y103) (k := x14_) (by assumption) (by omega) (by omega) (by omega); omega) | (have hk1 := bo_v (l := y103) (k := x14_) (by assumption) (by omega) (by omega) (by omega); have hk2 := bo_i (l := y103) (k := x14_) (by assumption) (by omega) (by omega) (by omega); omega) | omega) (by first | (have hk := bo_v (l := y103) (k := x14_) (by assumption) (by omega) (by omega) (by omega); omega) | (have hk := bo_i (l := y103) (k := x14_) (by assumption) (by omega) (by omega) (by omega); omega) | (have hk1 := bo_v (l := y103) (k := x14_) (by assumption) (by omega) (by omega) (by omega); have hk2 := bo_i (l := y103) (k := x14_) (by assumption) (by omega) (by omega) (by omega); omega) | omega)
      refine rd_appW (k := 2) (es := (eswE102_2 ++ nw134)) (news := nw142) M135 rfl rfl rfl n134 wr134 sr142 f142 (fun a142 h142 n142 wr142 M142 => ?_)
      have q142 : All2 tI.R ((zE102.headers ++ ([(ix y103 x14_).Header] : List Int)) ++ ([((ix y103 x14_).Dst).Header] : List Int)) ((eswE102_2 ++ nw134) ++ nw142) := All2.app q134 ar142
      have hl142 : ((zE102.headers ++ ([(ix y103 x14_).Header] : List Int)) ++ ([((ix y103 x14_).Dst).Header] : List Int)).length ≤ 4611686018427387904 := by rw [← All2.length_eq q142, List.length_append]; exact fits_len f142
      refine rd_op (y33q rfl) ?_
      refine rd_storeF (k := 4) (v := a142) M142 rfl rfl rfl (y82q (k := 2) M142 rfl n142).1 rfl (by first | decide | (simp only [List.length_cons, List.length_nil]; omega) | simp) (fun h143 M143 => ?_)
      replace M143 : Mem h143 [⟨.op i114 w114 0, 87, 7, [v113]⟩, ⟨awE102_4, 3, 1, eswE102_4⟩, ⟨a142, 3, 1, ((eswE102_2 ++ nw134) ++ nw142)⟩, ⟨awE102_0, 58, 2, eswE102_0⟩, ⟨.op i101 w101 0, 100, 3, [.agg [awE102_0, a142, awE102_4]]⟩] := M143
      refine y10q (y67q (y6q (y2q (rd_op (y20q rfl rfl i_add) (rd_op (y1q rfl) (y10q (y56q ?_)))))))
      have hbd := y58q r104
      have hinc : wr (x14_ + 1) = x14_ + 1 := wr_of (by omega) (by omega)
      rw [hinc]
      refine y37q ?_ (ih (x14_ + 1) ({ fields := zE102.fields, headers := ((zE102.headers ++ ([(ix y103 x14_).Header] : List Int)) ++ ([((ix y103 x14_).Dst).Header] : List Int)), registers := zE102.registers } : y32q) awE102_0 eswE102_0 a142 ((eswE102_2 ++ nw134) ++ nw142) awE102_4 eswE102_4 qswE102_0 newE102_0 hlwE102_0 wiwE102_1 q142 n142 hl142 wr142 qswE102_4 newE102_4 hlwE102_4 wiwE102_5 (by omega) (by omega) (by first | omega | ((try simp only [List.length_append, List.length_cons, List.length_nil]); first | omega | (have hk := bo_v (l := y103) (k := x14_) (by assumption) (by omega) (by omega) (by omega); omega) | (have hk := bo_i (l := y103) (k := x14_) (by assumption) (by omega) (by omega) (by omega); omega) | (have hk1 := bo_v (l := y103) (k := x14_) (by assumption) (by omega) (by omega) (by omega); have hk2 := bo_i (l := y103) (k := x14_) (by assumption) (by omega) (by omega) (by omega); omega))) (by first | omega | ((try simp only [List.length_append, List.length_cons, List.length_nil]); first | omega | (have hk := bo_v (l := y103) (k := x14_) (by assumption) (by omega) (by omega) (by omega); omega) | (have hk := bo_i (l := y103) (k := x14_) (by assumption) (by omega) (by omega) (by omega); omega) | (have hk1 := bo_v (l := y103) (k := x14_) (by assumption) (by omega) (by omega) (by omega); have hk2 := bo_i (l := y103) (k := x14_) (by assumption) (by omega) (by omega) (by omega); omega))) (by first | omega | ((try simp only [List.length_append, List.length_cons, List.length_nil]); first | omega | (have hk := bo_v (l := y103) (k := x14_) (by assumption) (by omega) (by omega) (by omega); omega) | (have hk := bo_i (l := y103) (k := x14_) (by assumption) (by omega) (by omega) (by omega); omega) | (have hk1 := bo_v (l := y103) (k := x14_) (by assumption) (by omega) (by omega) (by omega); have hk2 := bo_i (l := y103) (k := x14_) (by assumption) (by omega) (by omega) (by omega); omega))) (by first | omega | ((try simp only [List.length_append, List.length_cons, List.length_nil]); first | omega | (have hk := bo_v (l := y103) (k := x14_) (by assumption) (by omega) (by omega) (by omega); omega) | (have hk := bo_i (l := y103) (k := x14_) (by assumption) (by omega) (by omega) (by omega); omega) | (have hk1 := bo_v (l := y103) (k := x14_) (by assumption) (by omega) (by omega) (by omega); have hk2 := bo_i (l := y103) (k := x14_) (by assumption) (by omega) (by omega) (by omega); omega))) _ (Mem.sub M143 (.cons _ (.cons_cons _ (.cons_cons _ (.cons_cons _ (.cons_cons _ .slnil)))))) hres)
      exact ((y3q rfl (y3q rfl (y3q rfl (y3q rfl (y31q _))))))
     ·replace hres := (ite_f hc139).symm.trans hres
      have hc139' := hc139
      try simp only [qa, qaD] at hc139'
      refine y34q (y67q (y6q (y2q (rd_op (y20q rfl rfl i_add) (rd_op (y1q rfl) (y10q (y56q ?_)))))))
      have hbd := y58q r104
      have hinc : wr (x14_ + 1) = x14_ + 1 := wr_of (by omega) (by omega)
      rw [hinc]
      refine y37q ?_ (ih (x14_ + 1) ({ fields := zE102.fields, headers := (zE102.headers ++ ([(ix y103 x14_).Header] : List Int)), registers := zE102.registers } : y32q) awE102_0 eswE102_0 a134 (eswE102_2 ++ nw134) awE102_4 eswE102_4 qswE102_0 newE102_0 hlwE102_0 wiwE102_1 q134 n134 hl134 wr134 qswE102_4 newE102_4 hlwE102_4 wiwE102_5 (by omega) (by omega) (by first | omega | ((try simp only [List.length_append, List.length_cons, List.length_nil]); first | omega | (have hk := bo_v (l := y103) (k := x14_) (by assumption) (by omega) (by omega) (by omega); omega) | (have hk := bo_i (l := y103) (k := x14_) (by assumption) (by omega) (by omega) (by omega); omega) | (have hk1 := bo_v (l := y103) (k := x14_) (by assumption) (by omega) (by omega) (by omega); have hk2 := bo_i (l := y103) (k := x14_) (by assumption) (by omega) (by omega) (by omega); omega))) (by first | omega | ((try simp only [List.length_append, List.length_cons, List.length_nil]); first | omega | (have hk := bo_v (l := y103) (k := x14_) (by assumption) (by omega) (by omega) (by omega); omega) | (have hk := bo_i (l := y103) (k := x14_) (by assumption) (by omega) (by omega) (by omega); omega) | (have hk1 := bo_v (l := y103) (k := x14_) (by assumption) (by omega) (by omega) (by omega); have hk2 := bo_i (l := y103) (k := x14_) (by assumption) (by omega) (by omega) (by omega); omega))) (by first | omega | ((try simp only [List.length_append, List.length_cons, List.length_nil]); first | omega | (have hk := bo_v (l := y103) (k := x14_) (by assumption) (by omega) (by omega) (by omega); omega) | (have hk := bo_i (l := y103) (k := x14_) (by assumption) (by omega) (by omega) (by omega); omega) | (have hk1 := bo_v (l := y103) (k := x14_) (by assumption) (by omega) (by omega) (by omega); have hk2 := bo_i (l := y103) (k := x14_) (by assumption) (by omega) (by omega) (by omega); omega))) (by first | omega | ((try simp only [List.length_append, List.length_cons, List.length_nil]); first | omega | (have hk := bo_v (l := y103) (k := x14_) (by assumption) (by omega) (by omega) (by omega); omega) | (have hk := bo_i (l := y103) (k := x14_) (by assumption) (by omega) (by omega) (by omega); omega) | (have hk1 := bo_v (l := y103) (k := x14_) (by assumption) (by omega) (by omega) (by omega); have hk2 := bo_i (l := y103) (k := x14_) (by assumption) (by omega) (by omega) (by omega); omega))) _ (Mem.sub M135 (.cons _ (.cons_cons _ (.cons_cons _ (.cons_cons _ (.cons_cons _ .slnil)))))) hres)
      exact ((y3q rfl (y3q rfl (y3q rfl (y3q rfl (y31q _))))))
    ·replace hres := (ite_f hc132).symm.trans hres
     have hc132' := hc132
     try simp only [qa, qaD] at hc132'
     refine y7q (y2q (rd_op (y20q rfl rfl i_eql) (rd_op (y1q rfl) (y10q (y6q ?_)))))
     refine y24q rfl (fun hc144 => ?_) (fun hc144 => ?_)
     ·replace hres := (ite_t hc144).symm.trans hres
      have hc144' := hc144
      try simp only [qa, qaD] at hc144'
      refine y7q (y75q (y39q (rd_op (y33q rfl) (y40q (y39q ?_)))))
      obtain ⟨v146, e146, r146⟩ := y13q.g_Index r113
      refine rd_op (y43q (k := 0) M116 rfl rfl e146) (y40q ?_)
      have M147 : Mem h116 [⟨.op i101 w101 0, 100, 3, [.agg [awE102_0, awE102_2, awE102_4]]⟩, ⟨awE102_0, 58, 2, eswE102_0⟩, ⟨awE102_2, 3, 1, eswE102_2⟩, ⟨awE102_4, 3, 1, eswE102_4⟩, ⟨.op i114 w114 0, 87, 7, [v113]⟩] := (Mem.front (k := 4) (Mem.front (k := 3) (Mem.front (k := 2) (Mem.front (k := 1) M116 rfl) rfl) rfl) rfl)
      obtain ⟨y147, hw147, hres⟩ := y47q hres
      obtain ⟨vr147, h148, hX147, hZ147⟩ := f40_ok (x0 := ({ fields := zE102.fields, headers := zE102.headers, registers := zE102.registers } : y32q)) (x1 := ((ix y103 x14_).Index)) r146 qswE102_0 newE102_0 hlwE102_0 wiwE102_1 qswE102_2 newE102_2 hlwE102_2 wiwE102_3 qswE102_4 newE102_4 hlwE102_4 wiwE102_5 M147 (by first | (have hk := bo_v (l := y103) (k := x14_) (by assumption) (by omega) (by omega) (by omega); omega) | (have hk := bo_i (l := y103) (k := x14_) (by assumption) (by omega) (by omega) (by omega); omega) | (have hk1 := bo_v (l := y103) (k := x14_) (by assumption) (by omega) (by omega) (by omega); have hk2 := bo_i (l := y103) (k := x14_) (by assumption) (by omega) (by omega) (by omega); omega))
      rw [hw147] at hZ147
      obtain ⟨a147_0_0, es147_0_0, a147_0_2, es147_0_2, a147_0_4, es147_0_4, M148, qs147_0_0, ne147_0_0, hl147_0_0, wi147_0_1, qs147_0_2, ne147_0_2, hl147_0_2, wi147_0_3, qs147_0_4, ne147_0_4, hl147_0_4, wi147_0_5, hr147⟩ := hZ147
      replace hr147 := hr147.symm; subst hr147
      refine y86q rfl rfl hX147 ?_
      have ek147 := expression_len hw147; try dsimp only at ek147
      refine rs_nil (y6q (y2q (rd_op (y33q rfl) (rd_op (y43q (k := 0) M148 rfl rfl (mk1 (y82q (k := 3) M148 rfl ne147_0_4).2)) (rd_op (y33q rfl) (rd_op (y43q (k := 4) M148 rfl rfl (y13q.g_Register r113)) (rd_op (v := .fs true [vi ((ix y103 x14_).Register)]) (ov_bslice rfl (all_cons rfl all_nil)) ?_)))))))
      have r149 : (tSl tI).R ([(ix y103 x14_).Register] : List Int) (.fs true [vi ((ix y103 x14_).Register)]) := sl_fs ⟨rfl, trivial⟩ (by simp)
      obtain ⟨nw150, sr150, ar150⟩ := src_of (t := tI) (h := h148) r149
      have f150 : fits (es147_0_4.length + nw150.length) 8 = true := by rw [All2.length_eq qs147_0_4, All2.length_eq ar150]; (try simp only [List.length_cons, List.length_nil]); exact fits_of (by first | (have hk := bo_v (l := y103) (k := x14_) (by assumption) (by omega) (by omega) (by omega); omega) | (have hk := bo_i (l := y103) (k := x14_) (by assumption) (by omega) (by omega) (by omega); omega) | (have hk1 := bo_v (l := y103) (k := x14_) (by assumption) (by omega) (by omega) (by omega); have hk2 := bo_i (l := y103) (k := x14_) (by assumption) (by omega) (by omega) (by omega); omega) | omega) (by first | (have hk := bo_v (l := y103) (k := x14_) (by assumption) (by omega) (by omega) (by omega); omega) | (have hk := bo_i (l := y103) (k := x14_) (by assumption) (by omega) (by omega) (by omega); omega) | (have hk1 := bo_v (l := y103) (k := x14_) (by assumption) (by omega) (by omega) (by omega); have hk2 := bo_i (l := y103) (k := x14_) (by assumption) (by omega) (by omega) (by omega); omega) | omega)
      refine rd_appW (k := 3) (es := es147_0_4) (news := nw150) M148 rfl rfl rfl ne147_0_4 wi147_0_5 sr150 f150 (fun a150 h150 n150 wr150 M150 => ?_)
      have q150 : All2 tI.R (y147.registers ++ ([(ix y103 x14_).Register] : List Int)) (es147_0_4 ++ nw150) := All2.app qs147_0_4 ar150
      have hl150 : (y147.registers ++ ([(ix y103 x14_).Register] : List Int)).length ≤ 4611686018427387904 := by rw [← All2.length_eq q150, List.length_append]; exact fits_len f150
      refine rd_op (y33q rfl) ?_
      refine rd_storeF (k := 0) (v := a150) M150 rfl rfl rfl (y82q (k := 3) M150 rfl n150).1 rfl (by first | decide | (simp only [List.length_cons, List.length_nil]; omega) | simp) (fun h151 M151 => ?_)
      replace M151 : Mem h151 [⟨.op i101 w101 0, 100, 3, [.agg [a147_0_0, a147_0_2, a150]]⟩, ⟨a147_0_0, 58, 2, es147_0_0⟩, ⟨a147_0_2, 3, 1, es147_0_2⟩, ⟨a150, 3, 1, (es147_0_4 ++ nw150)⟩, ⟨.op i114 w114 0, 87, 7, [v113]⟩] := M151
      refine y10q (y67q (y6q (y7q (y2q (rd_op (y33q rfl) (rd_op (y43q (k := 4) M151 rfl rfl (y13q.g_Kind r113)) (rd_op (y20q rfl rfl i_eql) (rd_op (y1q rfl) ?_))))))))
      refine y63q (d := 61) (v := vb ((decide (((ix y103 x14_).Kind) = 1)) || (decide (((ix y103 x14_).Kind) = 4)))) ?_ ?_
      ·intro S Q r
       simp only [ac25_G1, List.cons_append, List.nil_append, List.append_assoc]
       cases hb152 : (decide (((ix y103 x14_).Kind) = 1))
       ·intro k
        have hb152' := hb152
        try simp only [qa, qaD] at hb152'
        refine y18q rfl rfl (y33q rfl) (y18q rfl rfl (y43q (k := 4) M151 rfl rfl (y13q.g_Kind r113)) (y18q rfl rfl (y20q rfl rfl i_eql) (rd_op (v := vb (decide (((ix y103 x14_).Kind) = 4))) (y30q rfl rfl rfl rfl) ?_)))
        exact y29q (y3q rfl (y0q rfl (y0q rfl (y0q rfl (y0q rfl (y25q _)))))) k
       ·intro k
        refine y12q rfl rfl (y12q rfl rfl (y12q rfl rfl (rd_op (v := vb true) (y30q rfl rfl rfl rfl) ?_)))
        exact y29q (y3q rfl (y0q rfl (y0q rfl (y0q rfl (y0q rfl (y25q _)))))) k
      refine rd_op (y1q rfl) ?_
      refine y63q (d := 67) (v := vb (((decide (((ix y103 x14_).Kind) = 1)) || (decide (((ix y103 x14_).Kind) = 4))) && (!decide ((((ix y103 x14_).Dst).Header) = (-1))))) ?_ ?_
      ·intro S Q r
       simp only [ac25_G2, List.cons_append, List.nil_append, List.append_assoc]
       cases hb153 : ((decide (((ix y103 x14_).Kind) = 1)) || (decide (((ix y103 x14_).Kind) = 4)))
       ·intro k
        refine y12q rfl rfl (y12q rfl rfl (y12q rfl rfl (y12q rfl rfl (rd_op (v := vb false) (y30q rfl rfl rfl rfl) ?_))))
        exact y29q (y3q rfl (y0q rfl (y0q rfl (y0q rfl (y0q rfl (y0q rfl (y25q _))))))) k
       ·intro k
        have hb153' := hb153
        try simp only [qa, qaD] at hb153'
        refine y18q rfl rfl (y33q rfl) (y18q rfl rfl (y33q rfl) ?_)
        obtain ⟨v154, e154, r154⟩ := y13q.g_Dst r113
        refine y18q rfl rfl (y43q (k := 4) M151 rfl rfl (field_field e154 (y4q.g_Header r154))) (y18q rfl rfl (y20q rfl rfl i_neq) (rd_op (v := vb (!decide ((((ix y103 x14_).Dst).Header) = (-1)))) (y30q rfl rfl rfl rfl) ?_))
        exact y29q (y3q rfl (y0q rfl (y0q rfl (y0q rfl (y0q rfl (y0q rfl (y25q _))))))) k
      refine y10q (y6q ?_)
      refine y24q rfl (fun hc155 => ?_) (fun hc155 => ?_)
      ·replace hres := (ite_t hc155).symm.trans hres
       have hc155' := hc155
       try simp only [qa, qaD] at hc155'
       refine y2q (rd_op (y33q rfl) (rd_op (y43q (k := 0) M151 rfl rfl (mk1 (y82q (k := 2) M151 rfl ne147_0_2).2)) (rd_op (y33q rfl) (rd_op (y33q rfl) ?_))))
       obtain ⟨v156, e156, r156⟩ := y13q.g_Dst r113
       refine rd_op (y43q (k := 4) M151 rfl rfl (field_field e156 (y4q.g_Header r156))) (rd_op (v := .fs true [vi (((ix y103 x14_).Dst).Header)]) (ov_bslice rfl (all_cons rfl all_nil)) ?_)
       have r157 : (tSl tI).R ([((ix y103 x14_).Dst).Header] : List Int) (.fs true [vi (((ix y103 x14_).Dst).Header)]) := sl_fs ⟨rfl, trivial⟩ (by simp)
       obtain ⟨nw158, sr158, ar158⟩ := src_of (t := tI) (h := h151) r157
       have f158 : fits (es147_0_2.length + nw158.length) 8 = true := by rw [All2.length_eq qs147_0_2, All2.length_eq ar158]; (try simp only [List.length_cons, List.length_nil]); exact fits_of (by first | (have hk := bo_v (l := y103) (k := x14_) (by assumption) (by omega) (by omega) (by omega); omega) | (have hk := bo_i (l := y103) (k := x14_) (by assumption) (by omega) (by omega) (by omega); omega) | (have hk1 := bo_v (l := y103) (k := x14_) (by assumption) (by omega) (by omega) (by omega); have hk2 := bo_i (l := y103) (k := x14_) (by assumption) (by omega) (by omega) (by omega); omega) | omega) (by first | (have hk := bo_v (l := y103) (k := x14_) (by assumption) (by omega) (by omega) (by omega); omega) | (have hk := bo_i (l := y103) (k := x14_) (by assumption) (by omega) (by omega) (by omega); omega) | (have hk1 := bo_v (l := y103) (k := x14_) (by assumption) (by omega) (by omega) (by omega); have hk2 := bo_i (l := y103) (k := x14_) (by assumption) (by omega) (by omega) (by omega); omega) | omega)
       refine rd_appW (k := 2) (es := es147_0_2) (news := nw158) M151 rfl rfl rfl ne147_0_2 wi147_0_3 sr158 f158 (fun a158 h158 n158 wr158 M158 => ?_)
       have q158 : All2 tI.R (y147.headers ++ ([((ix y103 x14_).Dst).Header] : List Int)) (es147_0_2 ++ nw158) := All2.app qs147_0_2 ar158
       have hl158 : (y147.headers ++ ([((ix y103 x14_).Dst).Header] : List Int)).length ≤ 4611686018427387904 := by rw [← All2.length_eq q158, List.length_append]; exact fits_len f158
       refine rd_op (y33q rfl) ?_
       refine rd_storeF (k := 0) (v := a158) M158 rfl rfl rfl (y82q (k := 2) M158 rfl n158).1 rfl (by first | decide | (simp only [List.length_cons, List.length_nil]; omega) | simp) (fun h159 M159 => ?_)
       replace M159 : Mem h159 [⟨.op i101 w101 0, 100, 3, [.agg [a147_0_0, a158, a150]]⟩, ⟨a147_0_0, 58, 2, es147_0_0⟩, ⟨a158, 3, 1, (es147_0_2 ++ nw158)⟩, ⟨a150, 3, 1, (es147_0_4 ++ nw150)⟩, ⟨.op i114 w114 0, 87, 7, [v113]⟩] := M159
       refine y10q (y67q (y6q (y2q (rd_op (y20q rfl rfl i_add) (rd_op (y1q rfl) (y10q ?_))))))
       have MO160 : Mem h159 [⟨a150, 3, 1, (es147_0_4 ++ nw150)⟩, ⟨a158, 3, 1, (es147_0_2 ++ nw158)⟩, ⟨a147_0_0, 58, 2, es147_0_0⟩, ⟨.op i101 w101 0, 100, 3, [.agg [a147_0_0, a158, a150]]⟩, ⟨.op i114 w114 0, 87, 7, [v113]⟩] := (Mem.front (k := 3) (Mem.front (k := 2) (Mem.front (k := 1) (Mem.front (k := 0) M159 rfl) rfl) rfl) rfl)
       refine y56q ?_
       have hbd := y58q r104
       have hinc : wr (x14_ + 1) = x14_ + 1 := wr_of (by omega) (by omega)
       rw [hinc]
       refine y37q ?_ (ih (x14_ + 1) ({ fields := y147.fields, headers := (y147.headers ++ ([((ix y103 x14_).Dst).Header] : List Int)), registers := (y147.registers ++ ([(ix y103 x14_).Register] : List Int)) } : y32q) a147_0_0 es147_0_0 a158 (es147_0_2 ++ nw158) a150 (es147_0_4 ++ nw150) qs147_0_0 ne147_0_0 hl147_0_0 wi147_0_1 q158 n158 hl158 wr158 q150 n150 hl150 wr150 (by omega) (by omega) (by first | omega | ((try simp only [List.length_append, List.length_cons, List.length_nil]); first | omega | (have hk := bo_v (l := y103) (k := x14_) (by assumption) (by omega) (by omega) (by omega); omega) | (have hk := bo_i (l := y103) (k := x14_) (by assumption) (by omega) (by omega) (by omega); omega) | (have hk1 := bo_v (l := y103) (k := x14_) (by assumption) (by omega) (by omega) (by omega); have hk2 := bo_i (l := y103) (k := x14_) (by assumption) (by omega) (by omega) (by omega); omega))) (by first | omega | ((try simp only [List.length_append, List.length_cons, List.length_nil]); first | omega | (have hk := bo_v (l := y103) (k := x14_) (by assumption) (by omega) (by omega) (by omega); omega) | (have hk := bo_i (l := y103) (k := x14_) (by assumption) (by omega) (by omega) (by omega); omega) | (have hk1 := bo_v (l := y103) (k := x14_) (by assumption) (by omega) (by omega) (by omega); have hk2 := bo_i (l := y103) (k := x14_) (by assumption) (by omega) (by omega) (by omega); omega))) (by first | omega | ((try simp only [List.length_append, List.length_cons, List.length_nil]); first | omega | (have hk := bo_v (l := y103) (k := x14_) (by assumption) (by omega) (by omega) (by omega); omega) | (have hk := bo_i (l := y103) (k := x14_) (by assumption) (by omega) (by omega) (by omega); omega) | (have hk1 := bo_v (l := y103) (k := x14_) (by assumption) (by omega) (by omega) (by omega); have hk2 := bo_i (l := y103) (k := x14_) (by assumption) (by omega) (by omega) (by omega); omega))) (by first | omega | ((try simp only [List.length_append, List.length_cons, List.length_nil]); first | omega | (have hk := bo_v (l := y103) (k := x14_) (by assumption) (by omega) (by omega) (by omega); omega) | (have hk := bo_i (l := y103) (k := x14_) (by assumption) (by omega) (by omega) (by omega); omega) | (have hk1 := bo_v (l := y103) (k := x14_) (by assumption) (by omega) (by omega) (by omega); have hk2 := bo_i (l := y103) (k := x14_) (by assumption) (by omega) (by omega) (by omega); omega))) _ (Mem.sub MO160 (.cons_cons _ (.cons_cons _ (.cons_cons _ (.cons_cons _ (.cons _ .slnil)))))) hres)
       exact ((y3q rfl (y3q rfl (y3q rfl (y3q rfl (y31q _))))))
      ·replace hres := (ite_f hc155).symm.trans hres
       have hc155' := hc155
       try simp only [qa, qaD] at hc155'
       refine y34q (y67q (y6q (y2q (rd_op (y20q rfl rfl i_add) (rd_op (y1q rfl) (y10q ?_))))))
       have MO161 : Mem h151 [⟨a150, 3, 1, (es147_0_4 ++ nw150)⟩, ⟨a147_0_2, 3, 1, es147_0_2⟩, ⟨a147_0_0, 58, 2, es147_0_0⟩, ⟨.op i101 w101 0, 100, 3, [.agg [a147_0_0, a147_0_2, a150]]⟩, ⟨.op i114 w114 0, 87, 7, [v113]⟩] := (Mem.front (k := 3) (Mem.front (k := 2) (Mem.front (k := 1) (Mem.front (k := 0) M151 rfl) rfl) rfl) rfl)
       refine y56q ?_
       have hbd := y58q r104
       have hinc : wr (x14_ + 1) = x14_ + 1 := wr_of (by omega) (by omega)
       rw [hinc]
       refine y37q ?_ (ih (x14_ + 1) ({ fields := y147.fields, headers := y147.headers, registers := (y147.registers ++ ([(ix y103 x14_).Register] : List Int)) } : y32q) a147_0_0 es147_0_0 a147_0_2 es147_0_2 a150 (es147_0_4 ++ nw150) qs147_0_0 ne147_0_0 hl147_0_0 wi147_0_1 qs147_0_2 ne147_0_2 hl147_0_2 wi147_0_3 q150 n150 hl150 wr150 (by omega) (by omega) (by first | omega | ((try simp only [List.length_append, List.length_cons, List.length_nil]); first | omega | (have hk := bo_v (l := y103) (k := x14_) (by assumption) (by omega) (by omega) (by omega); omega) | (have hk := bo_i (l := y103) (k := x14_) (by assumption) (by omega) (by omega) (by omega); omega) | (have hk1 := bo_v (l := y103) (k := x14_) (by assumption) (by omega) (by omega) (by omega); have hk2 := bo_i (l := y103) (k := x14_) (by assumption) (by omega) (by omega) (by omega); omega))) (by first | omega | ((try simp only [List.length_append, List.length_cons, List.length_nil]); first | omega | (have hk := bo_v (l := y103) (k := x14_) (by assumption) (by omega) (by omega) (by omega); omega) | (have hk := bo_i (l := y103) (k := x14_) (by assumption) (by omega) (by omega) (by omega); omega) | (have hk1 := bo_v (l := y103) (k := x14_) (by assumption) (by omega) (by omega) (by omega); have hk2 := bo_i (l := y103) (k := x14_) (by assumption) (by omega) (by omega) (by omega); omega))) (by first | omega | ((try simp only [List.length_append, List.length_cons, List.length_nil]); first | omega | (have hk := bo_v (l := y103) (k := x14_) (by assumption) (by omega) (by omega) (by omega); omega) | (have hk := bo_i (l := y103) (k := x14_) (by assumption) (by omega) (by omega) (by omega); omega) | (have hk1 := bo_v (l := y103) (k := x14_) (by assumption) (by omega) (by omega) (by omega); have hk2 := bo_i (l := y103) (k := x14_) (by assumption) (by omega) (by omega) (by omega); omega))) (by first | omega | ((try simp only [List.length_append, List.length_cons, List.length_nil]); first | omega | (have hk := bo_v (l := y103) (k := x14_) (by assumption) (by omega) (by omega) (by omega); omega) | (have hk := bo_i (l := y103) (k := x14_) (by assumption) (by omega) (by omega) (by omega); omega) | (have hk1 := bo_v (l := y103) (k := x14_) (by assumption) (by omega) (by omega) (by omega); have hk2 := bo_i (l := y103) (k := x14_) (by assumption) (by omega) (by omega) (by omega); omega))) _ (Mem.sub MO161 (.cons_cons _ (.cons_cons _ (.cons_cons _ (.cons_cons _ (.cons _ .slnil)))))) hres)
       exact ((y3q rfl (y3q rfl (y3q rfl (y3q rfl (y31q _))))))
     ·replace hres := (ite_f hc144).symm.trans hres
      have hc144' := hc144
      try simp only [qa, qaD] at hc144'
      refine y7q (y2q (rd_op (y20q rfl rfl i_eql) (rd_op (y1q rfl) (y10q (y6q ?_)))))
      refine y24q rfl (fun hc162 => ?_) (fun hc162 => ?_)
      ·replace hres := (ite_t hc162).symm.trans hres
       have hc162' := hc162
       try simp only [qa, qaD] at hc162'
       refine y7q (y75q (y39q (rd_op (y33q rfl) (y40q (y39q ?_)))))
       obtain ⟨v164, e164, r164⟩ := y13q.g_Index r113
       refine rd_op (y43q (k := 0) M116 rfl rfl e164) (y40q ?_)
       have M165 : Mem h116 [⟨.op i101 w101 0, 100, 3, [.agg [awE102_0, awE102_2, awE102_4]]⟩, ⟨awE102_0, 58, 2, eswE102_0⟩, ⟨awE102_2, 3, 1, eswE102_2⟩, ⟨awE102_4, 3, 1, eswE102_4⟩, ⟨.op i114 w114 0, 87, 7, [v113]⟩] := (Mem.front (k := 4) (Mem.front (k := 3) (Mem.front (k := 2) (Mem.front (k := 1) M116 rfl) rfl) rfl) rfl)
       obtain ⟨y165, hw165, hres⟩ := y47q hres
       obtain ⟨vr165, h166, hX165, hZ165⟩ := f40_ok (x0 := ({ fields := zE102.fields, headers := zE102.headers, registers := zE102.registers } : y32q)) (x1 := ((ix y103 x14_).Index)) r164 qswE102_0 newE102_0 hlwE102_0 wiwE102_1 qswE102_2 newE102_2 hlwE102_2 wiwE102_3 qswE102_4 newE102_4 hlwE102_4 wiwE102_5 M165 (by first | (have hk := bo_v (l := y103) (k := x14_) (by assumption) (by omega) (by omega) (by omega); omega) | (have hk := bo_i (l := y103) (k := x14_) (by assumption) (by omega) (by omega) (by omega); omega) | (have hk1 := bo_v (l := y103) (k := x14_) (by assumption) (by omega) (by omega) (by omega); have hk2 := bo_i (l := y103) (k := x14_) (by assumption) (by omega) (by omega) (by omega); omega))
       rw [hw165] at hZ165
       obtain ⟨a165_0_0, es165_0_0, a165_0_2, es165_0_2, a165_0_4, es165_0_4, M166, qs165_0_0, ne165_0_0, hl165_0_0, wi165_0_1, qs165_0_2, ne165_0_2, hl165_0_2, wi165_0_3, qs165_0_4, ne165_0_4, hl165_0_4, wi165_0_5, hr165⟩ := hZ165
       replace hr165 := hr165.symm; subst hr165
       refine y86q rfl rfl hX165 ?_
       have ek165 := expression_len hw165; try dsimp only at ek165
       refine rs_nil (y6q (y75q (y39q (rd_op (y33q rfl) (y40q (y39q ?_))))))
       obtain ⟨v168, e168, r168⟩ := y13q.g_Value r113
       refine rd_op (y43q (k := 4) M166 rfl rfl e168) (y40q ?_)
       have M169 : Mem h166 [⟨.op i101 w101 0, 100, 3, [.agg [a165_0_0, a165_0_2, a165_0_4]]⟩, ⟨a165_0_0, 58, 2, es165_0_0⟩, ⟨a165_0_2, 3, 1, es165_0_2⟩, ⟨a165_0_4, 3, 1, es165_0_4⟩, ⟨.op i114 w114 0, 87, 7, [v113]⟩] := (Mem.front (k := 3) (Mem.front (k := 3) (Mem.front (k := 3) (Mem.front (k := 3) M166 rfl) rfl) rfl) rfl)
       obtain ⟨y169, hw169, hres⟩ := y47q hres
       obtain ⟨vr169, h170, hX169, hZ169⟩ := f40_ok (x0 := ({ fields := y165.fields, headers := y165.headers, registers := y165.registers } : y32q)) (x1 := ((ix y103 x14_).Value)) r168 qs165_0_0 ne165_0_0 hl165_0_0 wi165_0_1 qs165_0_2 ne165_0_2 hl165_0_2 wi165_0_3 qs165_0_4 ne165_0_4 hl165_0_4 wi165_0_5 M169 (by first | (have hk := bo_v (l := y103) (k := x14_) (by assumption) (by omega) (by omega) (by omega); omega) | (have hk := bo_i (l := y103) (k := x14_) (by assumption) (by omega) (by omega) (by omega); omega) | (have hk1 := bo_v (l := y103) (k := x14_) (by assumption) (by omega) (by omega) (by omega); have hk2 := bo_i (l := y103) (k := x14_) (by assumption) (by omega) (by omega) (by omega); omega))
       rw [hw169] at hZ169
       obtain ⟨a169_0_0, es169_0_0, a169_0_2, es169_0_2, a169_0_4, es169_0_4, M170, qs169_0_0, ne169_0_0, hl169_0_0, wi169_0_1, qs169_0_2, ne169_0_2, hl169_0_2, wi169_0_3, qs169_0_4, ne169_0_4, hl169_0_4, wi169_0_5, hr169⟩ := hZ169
       replace hr169 := hr169.symm; subst hr169
       refine y86q rfl rfl hX169 ?_
       have ek169 := expression_len hw169; try dsimp only at ek169
       refine rs_nil (y67q (y6q (y7q (y2q (rd_op (y33q rfl) (rd_op (y43q (k := 4) M170 rfl rfl (y13q.g_Kind r113)) (rd_op (y20q rfl rfl i_eql) (rd_op (y1q rfl) ?_))))))))
       refine y63q (d := 61) (v := vb ((decide (((ix y103 x14_).Kind) = 1)) || (decide (((ix y103 x14_).Kind) = 4)))) ?_ ?_
       ·intro S Q r
        simp only [ac25_G1, List.cons_append, List.nil_append, List.append_assoc]
        cases hb171 : (decide (((ix y103 x14_).Kind) = 1))
        ·intro k
         have hb171' := hb171
         try simp only [qa, qaD] at hb171'
         refine y18q rfl rfl (y33q rfl) (y18q rfl rfl (y43q (k := 4) M170 rfl rfl (y13q.g_Kind r113)) (y18q rfl rfl (y20q rfl rfl i_eql) (rd_op (v := vb (decide (((ix y103 x14_).Kind) = 4))) (y30q rfl rfl rfl rfl) ?_)))
         exact y29q (y3q rfl (y0q rfl (y0q rfl (y0q rfl (y0q rfl (y25q _)))))) k
        ·intro k
         refine y12q rfl rfl (y12q rfl rfl (y12q rfl rfl (rd_op (v := vb true) (y30q rfl rfl rfl rfl) ?_)))
         exact y29q (y3q rfl (y0q rfl (y0q rfl (y0q rfl (y0q rfl (y25q _)))))) k
       refine rd_op (y1q rfl) ?_
       refine y63q (d := 67) (v := vb (((decide (((ix y103 x14_).Kind) = 1)) || (decide (((ix y103 x14_).Kind) = 4))) && (!decide ((((ix y103 x14_).Dst).Header) = (-1))))) ?_ ?_
       ·intro S Q r
        simp only [ac25_G2, List.cons_append, List.nil_append, List.append_assoc]
        cases hb172 : ((decide (((ix y103 x14_).Kind) = 1)) || (decide (((ix y103 x14_).Kind) = 4)))
        ·intro k
         refine y12q rfl rfl (y12q rfl rfl (y12q rfl rfl (y12q rfl rfl (rd_op (v := vb false) (y30q rfl rfl rfl rfl) ?_))))
         exact y29q (y3q rfl (y0q rfl (y0q rfl (y0q rfl (y0q rfl (y0q rfl (y25q _))))))) k
        ·intro k
         have hb172' := hb172
         try simp only [qa, qaD] at hb172'
         refine y18q rfl rfl (y33q rfl) (y18q rfl rfl (y33q rfl) ?_)
         obtain ⟨v173, e173, r173⟩ := y13q.g_Dst r113
         refine y18q rfl rfl (y43q (k := 4) M170 rfl rfl (field_field e173 (y4q.g_Header r173))) (y18q rfl rfl (y20q rfl rfl i_neq) (rd_op (v := vb (!decide ((((ix y103 x14_).Dst).Header) = (-1)))) (y30q rfl rfl rfl rfl) ?_))
         exact y29q (y3q rfl (y0q rfl (y0q rfl (y0q rfl (y0q rfl (y0q rfl (y25q _))))))) k
       refine y10q (y6q ?_)
       refine y24q rfl (fun hc174 => ?_) (fun hc174 => ?_)
       ·replace hres := (ite_t hc174).symm.trans hres
        have hc174' := hc174
        try simp only [qa, qaD] at hc174'
        refine y2q (rd_op (y33q rfl) (rd_op (y43q (k := 0) M170 rfl rfl (mk1 (y82q (k := 2) M170 rfl ne169_0_2).2)) (rd_op (y33q rfl) (rd_op (y33q rfl) ?_))))
        obtain ⟨v175, e175, r175⟩ := y13q.g_Dst r113
        refine rd_op (y43q (k := 4) M170 rfl rfl (field_field e175 (y4q.g_Header r175))) (rd_op (v := .fs true [vi (((ix y103 x14_).Dst).Header)]) (ov_bslice rfl (all_cons rfl all_nil)) ?_)
        have r176 : (tSl tI).R ([((ix y103 x14_).Dst).Header] : List Int) (.fs true [vi (((ix y103 x14_).Dst).Header)]) := sl_fs ⟨rfl, trivial⟩ (by simp)
        obtain ⟨nw177, sr177, ar177⟩ := src_of (t := tI) (h := h170) r176
        have f177 : fits (es169_0_2.length + nw177.length) 8 = true := by rw [All2.length_eq qs169_0_2, All2.length_eq ar177]; (try simp only [List.length_cons, List.length_nil]); exact fits_of (by first | (have hk := bo_v (l := y103) (k := x14_) (by assumption) (by omega) (by omega) (by omega); omega) | (have hk := bo_i (l := y103) (k := x14_) (by assumption) (by omega) (by omega) (by omega); omega) | (have hk1 := bo_v (l := y103) (k := x14_) (by assumption) (by omega) (by omega) (by omega); have hk2 := bo_i (l := y103) (k := x14_) (by assumption) (by omega) (by omega) (by omega); omega) | omega) (by first | (have hk := bo_v (l := y103) (k := x14_) (by assumption) (by omega) (by omega) (by omega); omega) | (have hk := bo_i (l := y103) (k := x14_) (by assumption) (by omega) (by omega) (by omega); omega) | (have hk1 := bo_v (l := y103) (k := x14_) (by assumption) (by omega) (by omega) (by omega); have hk2 := bo_i (l := y103) (k := x14_) (by assumption) (by omega) (by omega) (by omega); omega) | omega)
        refine rd_appW (k := 2) (es := es169_0_2) (news := nw177) M170 rfl rfl rfl ne169_0_2 wi169_0_3 sr177 f177 (fun a177 h177 n177 wr177 M177 => ?_)
        have q177 : All2 tI.R (y169.headers ++ ([((ix y103 x14_).Dst).Header] : List Int)) (es169_0_2 ++ nw177) := All2.app qs169_0_2 ar177
        have hl177 : (y169.headers ++ ([((ix y103 x14_).Dst).Header] : List Int)).length ≤ 4611686018427387904 := by rw [← All2.length_eq q177, List.length_append]; exact fits_len f177
        refine rd_op (y33q rfl) ?_
        refine rd_storeF (k := 0) (v := a177) M177 rfl rfl rfl (y82q (k := 2) M177 rfl n177).1 rfl (by first | decide | (simp only [List.length_cons, List.length_nil]; omega) | simp) (fun h178 M178 => ?_)
        replace M178 : Mem h178 [⟨.op i101 w101 0, 100, 3, [.agg [a169_0_0, a177, a169_0_4]]⟩, ⟨a169_0_0, 58, 2, es169_0_0⟩, ⟨a177, 3, 1, (es169_0_2 ++ nw177)⟩, ⟨a169_0_4, 3, 1, es169_0_4⟩, ⟨.op i114 w114 0, 87, 7, [v113]⟩] := M178
        refine y10q (y67q (y6q (y2q (rd_op (y20q rfl rfl i_add) (rd_op (y1q rfl) (y10q ?_))))))
        have MO179 : Mem h178 [⟨a169_0_4, 3, 1, es169_0_4⟩, ⟨a177, 3, 1, (es169_0_2 ++ nw177)⟩, ⟨a169_0_0, 58, 2, es169_0_0⟩, ⟨.op i101 w101 0, 100, 3, [.agg [a169_0_0, a177, a169_0_4]]⟩, ⟨.op i114 w114 0, 87, 7, [v113]⟩] := (Mem.front (k := 3) (Mem.front (k := 2) (Mem.front (k := 1) (Mem.front (k := 0) M178 rfl) rfl) rfl) rfl)
        refine y56q ?_
        have hbd := y58q r104
        have hinc : wr (x14_ + 1) = x14_ + 1 := wr_of (by omega) (by omega)
        rw [hinc]
        refine y37q ?_ (ih (x14_ + 1) ({ fields := y169.fields, headers := (y169.headers ++ ([((ix y103 x14_).Dst).Header] : List Int)), registers := y169.registers } : y32q) a169_0_0 es169_0_0 a177 (es169_0_2 ++ nw177) a169_0_4 es169_0_4 qs169_0_0 ne169_0_0 hl169_0_0 wi169_0_1 q177 n177 hl177 wr177 qs169_0_4 ne169_0_4 hl169_0_4 wi169_0_5 (by omega) (by omega) (by first | omega | ((try simp only [List.length_append, List.length_cons, List.length_nil]); first | omega | (have hk := bo_v (l := y103) (k := x14_) (by assumption) (by omega) (by omega) (by omega); omega) | (have hk := bo_i (l := y103) (k := x14_) (by assumption) (by omega) (by omega) (by omega); omega) | (have hk1 := bo_v (l := y103) (k := x14_) (by assumption) (by omega) (by omega) (by omega); have hk2 := bo_i (l := y103) (k := x14_) (by assumption) (by omega) (by omega) (by omega); omega))) (by first | omega | ((try simp only [List.length_append, List.length_cons, List.length_nil]); first | omega | (have hk := bo_v (l := y103) (k := x14_) (by assumption) (by omega) (by omega) (by omega); omega) | (have hk := bo_i (l := y103) (k := x14_) (by assumption) (by omega) (by omega) (by omega); omega) | (have hk1 := bo_v (l := y103) (k := x14_) (by assumption) (by omega) (by omega) (by omega); have hk2 := bo_i (l := y103) (k := x14_) (by assumption) (by omega) (by omega) (by omega); omega))) (by first | omega | ((try simp only [List.length_append, List.length_cons, List.length_nil]); first | omega | (have hk := bo_v (l := y103) (k := x14_) (by assumption) (by omega) (by omega) (by omega); omega) | (have hk := bo_i (l := y103) (k := x14_) (by assumption) (by omega) (by omega) (by omega); omega) | (have hk1 := bo_v (l := y103) (k := x14_) (by assumption) (by omega) (by omega) (by omega); have hk2 := bo_i (l := y103) (k := x14_) (by assumption) (by omega) (by omega) (by omega); omega))) (by first | omega | ((try simp only [List.length_append, List.length_cons, List.length_nil]); first | omega | (have hk := bo_v (l := y103) (k := x14_) (by assumption) (by omega) (by omega) (by omega); omega) | (have hk := bo_i (l := y103) (k := x14_) (by assumption) (by omega) (by omega) (by omega); omega) | (have hk1 := bo_v (l := y103) (k := x14_) (by assumption) (by omega) (by omega) (by omega); have hk2 := bo_i (l := y103) (k := x14_) (by assumption) (by omega) (by omega) (by omega); omega))) _ (Mem.sub MO179 (.cons_cons _ (.cons_cons _ (.cons_cons _ (.cons_cons _ (.cons _ .slnil)))))) hres)
        exact ((y3q rfl (y3q rfl (y3q rfl (y3q rfl (y31q _))))))
       ·replace hres := (ite_f hc174).symm.trans hres
        have hc174' := hc174
        try simp only [qa, qaD] at hc174'
        refine y34q (y67q (y6q (y2q (rd_op (y20q rfl rfl i_add) (rd_op (y1q rfl) (y10q ?_))))))
        have MO180 : Mem h170 [⟨a169_0_4, 3, 1, es169_0_4⟩, ⟨a169_0_2, 3, 1, es169_0_2⟩, ⟨a169_0_0, 58, 2, es169_0_0⟩, ⟨.op i101 w101 0, 100, 3, [.agg [a169_0_0, a169_0_2, a169_0_4]]⟩, ⟨.op i114 w114 0, 87, 7, [v113]⟩] := (Mem.front (k := 3) (Mem.front (k := 2) (Mem.front (k := 1) (Mem.front (k := 0) M170 rfl) rfl) rfl) rfl)
        refine y56q ?_
        have hbd := y58q r104
        have hinc : wr (x14_ + 1) = x14_ + 1 := wr_of (by omega) (by omega)
        rw [hinc]
        refine y37q ?_ (ih (x14_ + 1) ({ fields := y169.fields, headers := y169.headers, registers := y169.registers } : y32q) a169_0_0 es169_0_0 a169_0_2 es169_0_2 a169_0_4 es169_0_4 qs169_0_0 ne169_0_0 hl169_0_0 wi169_0_1 qs169_0_2 ne169_0_2 hl169_0_2 wi169_0_3 qs169_0_4 ne169_0_4 hl169_0_4 wi169_0_5 (by omega) (by omega) (by first | omega | ((try simp only [List.length_append, List.length_cons, List.length_nil]); first | omega | (have hk := bo_v (l := y103) (k := x14_) (by assumption) (by omega) (by omega) (by omega); omega) | (have hk := bo_i (l := y103) (k := x14_) (by assumption) (by omega) (by omega) (by omega); omega) | (have hk1 := bo_v (l := y103) (k := x14_) (by assumption) (by omega) (by omega) (by omega); have hk2 := bo_i (l := y103) (k := x14_) (by assumption) (by omega) (by omega) (by omega); omega))) (by first | omega | ((try simp only [List.length_append, List.length_cons, List.length_nil]); first | omega | (have hk := bo_v (l := y103) (k := x14_) (by assumption) (by omega) (by omega) (by omega); omega) | (have hk := bo_i (l := y103) (k := x14_) (by assumption) (by omega) (by omega) (by omega); omega) | (have hk1 := bo_v (l := y103) (k := x14_) (by assumption) (by omega) (by omega) (by omega); have hk2 := bo_i (l := y103) (k := x14_) (by assumption) (by omega) (by omega) (by omega); omega))) (by first | omega | ((try simp only [List.length_append, List.length_cons, List.length_nil]); first | omega | (have hk := bo_v (l := y103) (k := x14_) (by assumption) (by omega) (by omega) (by omega); omega) | (have hk := bo_i (l := y103) (k := x14_) (by assumption) (by omega) (by omega) (by omega); omega) | (have hk1 := bo_v (l := y103) (k := x14_) (by assumption) (by omega) (by omega) (by omega); have hk2 := bo_i (l := y103) (k := x14_) (by assumption) (by omega) (by omega) (by omega); omega))) (by first | omega | ((try simp only [List.length_append, List.length_cons, List.length_nil]); first | omega | (have hk := bo_v (l := y103) (k := x14_) (by assumption) (by omega) (by omega) (by omega); omega) | (have hk := bo_i (l := y103) (k := x14_) (by assumption) (by omega) (by omega) (by omega); omega) | (have hk1 := bo_v (l := y103) (k := x14_) (by assumption) (by omega) (by omega) (by omega); have hk2 := bo_i (l := y103) (k := x14_) (by assumption) (by omega) (by omega) (by omega); omega))) _ (Mem.sub MO180 (.cons_cons _ (.cons_cons _ (.cons_cons _ (.cons_cons _ (.cons _ .slnil)))))) hres)
        exact ((y3q rfl (y3q rfl (y3q rfl (y3q rfl (y31q _))))))
      ·replace hres := (ite_f hc162).symm.trans hres
       have hc162' := hc162
       try simp only [qa, qaD] at hc162'
       refine y34q (y67q (y6q (y7q (y2q (rd_op (y33q rfl) (rd_op (y43q (k := 0) M116 rfl rfl (y13q.g_Kind r113)) (rd_op (y20q rfl rfl i_eql) (rd_op (y1q rfl) ?_))))))))
       refine y63q (d := 61) (v := vb ((decide (((ix y103 x14_).Kind) = 1)) || (decide (((ix y103 x14_).Kind) = 4)))) ?_ ?_
       ·intro S Q r
        simp only [ac25_G1, List.cons_append, List.nil_append, List.append_assoc]
        cases hb181 : (decide (((ix y103 x14_).Kind) = 1))
        ·intro k
         have hb181' := hb181
         try simp only [qa, qaD] at hb181'
         refine y18q rfl rfl (y33q rfl) (y18q rfl rfl (y43q (k := 0) M116 rfl rfl (y13q.g_Kind r113)) (y18q rfl rfl (y20q rfl rfl i_eql) (rd_op (v := vb (decide (((ix y103 x14_).Kind) = 4))) (y30q rfl rfl rfl rfl) ?_)))
         exact y29q (y3q rfl (y0q rfl (y0q rfl (y0q rfl (y0q rfl (y25q _)))))) k
        ·intro k
         refine y12q rfl rfl (y12q rfl rfl (y12q rfl rfl (rd_op (v := vb true) (y30q rfl rfl rfl rfl) ?_)))
         exact y29q (y3q rfl (y0q rfl (y0q rfl (y0q rfl (y0q rfl (y25q _)))))) k
       refine rd_op (y1q rfl) ?_
       refine y63q (d := 67) (v := vb (((decide (((ix y103 x14_).Kind) = 1)) || (decide (((ix y103 x14_).Kind) = 4))) && (!decide ((((ix y103 x14_).Dst).Header) = (-1))))) ?_ ?_
       ·intro S Q r
        simp only [ac25_G2, List.cons_append, List.nil_append, List.append_assoc]
        cases hb182 : ((decide (((ix y103 x14_).Kind) = 1)) || (decide (((ix y103 x14_).Kind) = 4)))
        ·intro k
         refine y12q rfl rfl (y12q rfl rfl (y12q rfl rfl (y12q rfl rfl (rd_op (v := vb false) (y30q rfl rfl rfl rfl) ?_))))
         exact y29q (y3q rfl (y0q rfl (y0q rfl (y0q rfl (y0q rfl (y0q rfl (y25q _))))))) k
        ·intro k
         have hb182' := hb182
         try simp only [qa, qaD] at hb182'
         refine y18q rfl rfl (y33q rfl) (y18q rfl rfl (y33q rfl) ?_)
         obtain ⟨v183, e183, r183⟩ := y13q.g_Dst r113
         refine y18q rfl rfl (y43q (k := 0) M116 rfl rfl (field_field e183 (y4q.g_Header r183))) (y18q rfl rfl (y20q rfl rfl i_neq) (rd_op (v := vb (!decide ((((ix y103 x14_).Dst).Header) = (-1)))) (y30q rfl rfl rfl rfl) ?_))
         exact y29q (y3q rfl (y0q rfl (y0q rfl (y0q rfl (y0q rfl (y0q rfl (y25q _))))))) k
       refine y10q (y6q ?_)
       refine y24q rfl (fun hc184 => ?_) (fun hc184 => ?_)
       ·replace hres := (ite_t hc184).symm.trans hres
        have hc184' := hc184
        try simp only [qa, qaD] at hc184'
        refine y2q (rd_op (y33q rfl) (rd_op (y43q (k := 4) M116 rfl rfl (mk1 (y82q (k := 2) M116 rfl newE102_2).2)) (rd_op (y33q rfl) (rd_op (y33q rfl) ?_))))
        obtain ⟨v185, e185, r185⟩ := y13q.g_Dst r113
        refine rd_op (y43q (k := 0) M116 rfl rfl (field_field e185 (y4q.g_Header r185))) (rd_op (v := .fs true [vi (((ix y103 x14_).Dst).Header)]) (ov_bslice rfl (all_cons rfl all_nil)) ?_)
        have r186 : (tSl tI).R ([((ix y103 x14_).Dst).Header] : List Int) (.fs true [vi (((ix y103 x14_).Dst).Header)]) := sl_fs ⟨rfl, trivial⟩ (by simp)
        obtain ⟨nw187, sr187, ar187⟩ := src_of (t := tI) (h := h116) r186
        have f187 : fits (eswE102_2.length + nw187.length) 8 = true := by rw [All2.length_eq qswE102_2, All2.length_eq ar187]; (try simp only [List.length_cons, List.length_nil]); exact fits_of (by first | (have hk := bo_v (l := y103) (k := x14_) (by assumption) (by omega) (by omega) (by omega); omega) | (have hk := bo_i (l := y103) (k := x14_) (by assumption) (by omega) (by omega) (by omega); omega) | (have hk1 := bo_v (l := y103) (k := x14_) (by assumption) (by omega) (by omega) (by omega); have hk2 := bo_i (l := y103) (k := x14_) (by assumption) (by omega) (by omega) (by omega); omega) | omega) (by first | (have hk := bo_v (l := y103) (k := x14_) (by assumption) (by omega) (by omega) (by omega); omega) | (have hk := bo_i (l := y103) (k := x14_) (by assumption) (by omega) (by omega) (by omega); omega) | (have hk1 := bo_v (l := y103) (k := x14_) (by assumption) (by omega) (by omega) (by omega); have hk2 := bo_i (l := y103) (k := x14_) (by assumption) (by omega) (by omega) (by omega); omega) | omega)
        refine rd_appW (k := 2) (es := eswE102_2) (news := nw187) M116 rfl rfl rfl newE102_2 wiwE102_3 sr187 f187 (fun a187 h187 n187 wr187 M187 => ?_)
        have q187 : All2 tI.R (zE102.headers ++ ([((ix y103 x14_).Dst).Header] : List Int)) (eswE102_2 ++ nw187) := All2.app qswE102_2 ar187
        have hl187 : (zE102.headers ++ ([((ix y103 x14_).Dst).Header] : List Int)).length ≤ 4611686018427387904 := by rw [← All2.length_eq q187, List.length_append]; exact fits_len f187
        refine rd_op (y33q rfl) ?_
        refine rd_storeF (k := 4) (v := a187) M187 rfl rfl rfl (y82q (k := 2) M187 rfl n187).1 rfl (by first | decide | (simp only [List.length_cons, List.length_nil]; omega) | simp) (fun h188 M188 => ?_)
        replace M188 : Mem h188 [⟨.op i114 w114 0, 87, 7, [v113]⟩, ⟨awE102_4, 3, 1, eswE102_4⟩, ⟨a187, 3, 1, (eswE102_2 ++ nw187)⟩, ⟨awE102_0, 58, 2, eswE102_0⟩, ⟨.op i101 w101 0, 100, 3, [.agg [awE102_0, a187, awE102_4]]⟩] := M188
        refine y10q (y67q (y6q (y2q (rd_op (y20q rfl rfl i_add) (rd_op (y1q rfl) (y10q (y56q ?_)))))))
        have hbd := y58q r104
        have hinc : wr (x14_ + 1) = x14_ + 1 := wr_of (by omega) (by omega)
        rw [hinc]
        refine y37q ?_ (ih (x14_ + 1) ({ fields := zE102.fields, headers := (zE102.headers ++ ([((ix y103 x14_).Dst).Header] : List Int)), registers := zE102.registers } : y32q) awE102_0 eswE102_0 a187 (eswE102_2 ++ nw187) awE102_4 eswE102_4 qswE102_0 newE102_0 hlwE102_0 wiwE102_1 q187 n187 hl187 wr187 qswE102_4 newE102_4 hlwE102_4 wiwE102_5 (by omega) (by omega) (by first | omega | ((try simp only [List.length_append, List.length_cons, List.length_nil]); first | omega | (have hk := bo_v (l := y103) (k := x14_) (by assumption) (by omega) (by omega) (by omega); omega) | (have hk := bo_i (l := y103) (k := x14_) (by assumption) (by omega) (by omega) (by omega); omega) | (have hk1 := bo_v (l := y103) (k := x14_) (by assumption) (by omega) (by omega) (by omega); have hk2 := bo_i (l := y103) (k := x14_) (by assumption) (by omega) (by omega) (by omega); omega))) (by first | omega | ((try simp only [List.length_append, List.length_cons, List.length_nil]); first | omega | (have hk := bo_v (l := y103) (k := x14_) (by assumption) (by omega) (by omega) (by omega); omega) | (have hk := bo_i (l := y103) (k := x14_) (by assumption) (by omega) (by omega) (by omega); omega) | (have hk1 := bo_v (l := y103) (k := x14_) (by assumption) (by omega) (by omega) (by omega); have hk2 := bo_i (l := y103) (k := x14_) (by assumption) (by omega) (by omega) (by omega); omega))) (by first | omega | ((try simp only [List.length_append, List.length_cons, List.length_nil]); first | omega | (have hk := bo_v (l := y103) (k := x14_) (by assumption) (by omega) (by omega) (by omega); omega) | (have hk := bo_i (l := y103) (k := x14_) (by assumption) (by omega) (by omega) (by omega); omega) | (have hk1 := bo_v (l := y103) (k := x14_) (by assumption) (by omega) (by omega) (by omega); have hk2 := bo_i (l := y103) (k := x14_) (by assumption) (by omega) (by omega) (by omega); omega))) (by first | omega | ((try simp only [List.length_append, List.length_cons, List.length_nil]); first | omega | (have hk := bo_v (l := y103) (k := x14_) (by assumption) (by omega) (by omega) (by omega); omega) | (have hk := bo_i (l := y103) (k := x14_) (by assumption) (by omega) (by omega) (by omega); omega) | (have hk1 := bo_v (l := y103) (k := x14_) (by assumption) (by omega) (by omega) (by omega); have hk2 := bo_i (l := y103) (k := x14_) (by assumption) (by omega) (by omega) (by omega); omega))) _ (Mem.sub M188 (.cons _ (.cons_cons _ (.cons_cons _ (.cons_cons _ (.cons_cons _ .slnil)))))) hres)
        exact ((y3q rfl (y3q rfl (y3q rfl (y3q rfl (y31q _))))))
       ·replace hres := (ite_f hc184).symm.trans hres
        have hc184' := hc184
        try simp only [qa, qaD] at hc184'
        refine y34q (y67q (y6q (y2q (rd_op (y20q rfl rfl i_add) (rd_op (y1q rfl) (y10q (y56q ?_)))))))
        have hbd := y58q r104
        have hinc : wr (x14_ + 1) = x14_ + 1 := wr_of (by omega) (by omega)
        rw [hinc]
        refine y37q ?_ (ih (x14_ + 1) ({ fields := zE102.fields, headers := zE102.headers, registers := zE102.registers } : y32q) awE102_0 eswE102_0 awE102_2 eswE102_2 awE102_4 eswE102_4 qswE102_0 newE102_0 hlwE102_0 wiwE102_1 qswE102_2 newE102_2 hlwE102_2 wiwE102_3 qswE102_4 newE102_4 hlwE102_4 wiwE102_5 (by omega) (by omega) (by first | omega | ((try simp only [List.length_append, List.length_cons, List.length_nil]); first | omega | (have hk := bo_v (l := y103) (k := x14_) (by assumption) (by omega) (by omega) (by omega); omega) | (have hk := bo_i (l := y103) (k := x14_) (by assumption) (by omega) (by omega) (by omega); omega) | (have hk1 := bo_v (l := y103) (k := x14_) (by assumption) (by omega) (by omega) (by omega); have hk2 := bo_i (l := y103) (k := x14_) (by assumption) (by omega) (by omega) (by omega); omega))) (by first | omega | ((try simp only [List.length_append, List.length_cons, List.length_nil]); first | omega | (have hk := bo_v (l := y103) (k := x14_) (by assumption) (by omega) (by omega) (by omega); omega) | (have hk := bo_i (l := y103) (k := x14_) (by assumption) (by omega) (by omega) (by omega); omega) | (have hk1 := bo_v (l := y103) (k := x14_) (by assumption) (by omega) (by omega) (by omega); have hk2 := bo_i (l := y103) (k := x14_) (by assumption) (by omega) (by omega) (by omega); omega))) (by first | omega | ((try simp only [List.length_append, List.length_cons, List.length_nil]); first | omega | (have hk := bo_v (l := y103) (k := x14_) (by assumption) (by omega) (by omega) (by omega); omega) | (have hk := bo_i (l := y103) (k := x14_) (by assumption) (by omega) (by omega) (by omega); omega) | (have hk1 := bo_v (l := y103) (k := x14_) (by assumption) (by omega) (by omega) (by omega); have hk2 := bo_i (l := y103) (k := x14_) (by assumption) (by omega) (by omega) (by omega); omega))) (by first | omega | ((try simp only [List.length_append, List.length_cons, List.length_nil]); first | omega | (have hk := bo_v (l := y103) (k := x14_) (by assumption) (by omega) (by omega) (by omega); omega) | (have hk := bo_i (l := y103) (k := x14_) (by assumption) (by omega) (by omega) (by omega); omega) | (have hk1 := bo_v (l := y103) (k := x14_) (by assumption) (by omega) (by omega) (by omega); have hk2 := bo_i (l := y103) (k := x14_) (by assumption) (by omega) (by omega) (by omega); omega))) _ (Mem.sub M116 (.cons _ (.cons_cons _ (.cons_cons _ (.cons_cons _ (.cons_cons _ .slnil)))))) hres)
        exact ((y3q rfl (y3q rfl (y3q rfl (y3q rfl (y31q _))))))
  ·exfalso
   try simp only [qa, qaD] at hc112
   omega

theorem f25_ok {x0 : y5q} {x1 : Int} {v0 : PV} (r0 : y5q.t.R x0 v0) : ∃ c0, ∃ c1, ∃ c2, FnR Try.prog 25 [v0, vi x1] (.tup [c0, c1, c2]) ∧ (tSl y4q.t).R (action_Reads x0 x1).1 c0 ∧ (tSl tI).R (action_Reads x0 x1).2.1 c1 ∧ (tSl tI).R (action_Reads x0 x1).2.2 c2 := by
 obtain ⟨res, hres⟩ : ∃ res, action_Reads x0 x1 = res := ⟨_, rfl⟩
 suffices H : RC Try.prog ac25 [] (QR Try.prog [(4, none), (5, none), (6, none)] (RF25 res)) (argE 0 [v0, vi x1]) ⟨0, []⟩ by
  rw [hres]
  obtain ⟨r, h1, c0, c1, c2, rfl, qc0, qc1, qc2⟩ := fnE text25 (by simp) H
  exact ⟨c0, c1, c2, h1, qc0, qc1, qc2⟩
 unfold action_Reads at hres
 unfold ac25
 refine y7q (y2q (rd_op (y102q rfl (TR.cnt y5q.t r0)) (rd_op (v := nilS) (y1q rfl) (rd_op (v := nilS) (y1q rfl) (rd_op (v := nilS) (y1q rfl) (y10q (y6q (y7q ?_))))))))
 refine y2q ?_
 refine y94q (x := .agg [nilS, nilS, nilS]) (Mem.nil ⟨0, []⟩) rfl rfl (fun i101 w101 h101 M101 => ?_)
 refine y10q (y6q (y7q (y7q (y2q (rd_op (y19q rfl (TR.cnt y5q.t r0) (TR.agg y5q.t r0)) (rd_op (y1q rfl) ?_))))))
 obtain ⟨y103, hw103, hres⟩ := y47q hres
 obtain ⟨v104, f103, r104⟩ := f39_ok (x1 := x1) r0 
 rw [hw103] at r104
 have ek103 : BO x0 y103 := body_ok hw103
 have el103 : y103.length ≤ 12 := (body_ok hw103).1
 refine y52q (cv_fn rfl rfl (y15q (TR.clo y5q.t r0) (y15q rfl y36q)) f103) (rd_op (ov_bi rfl (y62q r104 Try.underlying47 _)) (rd_op (v := vi 0) (y1q rfl) (y10q (y6q (y42q ?_)))))
 have M105 := mem_acc (sz := 2) (es := []) M101 58 (.inl ⟨none, rfl, rfl⟩) (by simp)
 have M107 := mem_acc (sz := 1) (es := []) M105 3 (.inl ⟨none, rfl, rfl⟩) (by simp)
 have M109 := mem_acc (sz := 1) (es := []) M107 3 (.inl ⟨none, rfl, rfl⟩) (by simp)
 refine y37q ?_ (action_Reads_L1_ok (x0 := x0) (x1 := x1) (y103 := y103) (v104 := v104) (i101 := i101) (w101 := w101) (hw103 := hw103) (r104 := r104) (ek103 := ek103) (el103 := el103) ?_ (Int.toNat ((y103.length : Int) - 0)) 0 ({ fields := ([] : List y4q), headers := ([] : List Int), registers := ([] : List Int) } : y32q) nilS ([] : List PV) nilS ([] : List PV) nilS ([] : List PV) (show All2 y4q.t.R ([] : List y4q) [] from trivial) rfl (by first | decide | simp) (.inl rfl) (show All2 tI.R ([] : List Int) [] from trivial) rfl (by first | decide | simp) (.inl rfl) (show All2 tI.R ([] : List Int) [] from trivial) rfl (by first | decide | simp) (.inl rfl) rfl (by omega) (by first | omega | ((try dsimp only); (try simp only [List.length_append, List.length_cons, List.length_nil]); omega) | simp) (by first | omega | ((try dsimp only); (try simp only [List.length_append, List.length_cons, List.length_nil]); omega) | simp) (by first | omega | ((try dsimp only); (try simp only [List.length_append, List.length_cons, List.length_nil]); omega) | simp) (by first | omega | ((try dsimp only); (try simp only [List.length_append, List.length_cons, List.length_nil]); omega) | simp) _ (Mem.sub M109 (.cons_cons _ (.cons_cons _ (.cons_cons _ (.cons_cons _ .slnil))))) hres)
 ·exact ((y3q rfl (y3q rfl (y3q rfl (y3q rfl (y31q _))))))
 ·intro zE102_189 aw189E102_0 esw189E102_0 aw189E102_2 esw189E102_2 aw189E102_4 esw189E102_4 qsw189E102_0 new189E102_0 hlw189E102_0 wiw189E102_1 qsw189E102_2 new189E102_2 hlw189E102_2 wiw189E102_3 qsw189E102_4 new189E102_4 hlw189E102_4 wiw189E102_5 po189_0 h189 M189 hres
  refine px_blk (y6q (y7q (y75q ?_)))
  have M190 : Mem h189 [⟨.op i101 w101 0, 100, 3, [.agg [aw189E102_0, aw189E102_2, aw189E102_4]]⟩, ⟨aw189E102_0, 58, 2, esw189E102_0⟩, ⟨aw189E102_2, 3, 1, esw189E102_2⟩, ⟨aw189E102_4, 3, 1, esw189E102_4⟩] := (Mem.front (k := 3) (Mem.front (k := 2) (Mem.front (k := 1) (Mem.front (k := 0) M189 rfl) rfl) rfl) rfl)
  obtain ⟨y190, hw190, hres⟩ := y47q hres
  obtain ⟨vr190, h194, hX190, hZ190⟩ := f41_ok (x0 := ({ fields := zE102_189.fields, headers := zE102_189.headers, registers := zE102_189.registers } : y32q)) qsw189E102_0 new189E102_0 hlw189E102_0 wiw189E102_1 qsw189E102_2 new189E102_2 hlw189E102_2 wiw189E102_3 qsw189E102_4 new189E102_4 hlw189E102_4 wiw189E102_5 M190 (by first | omega | ((try dsimp only); (try simp only [List.length_append, List.length_cons, List.length_nil]); omega) | simp)
  rw [hw190] at hZ190
  obtain ⟨as190_0, es190_0, as190_1, es190_1, as190_2, es190_2, M194, qs190_0, ns190_0, hs190_0, wi190_0, qs190_1, ns190_1, hs190_1, wi190_1, qs190_2, ns190_2, hs190_2, wi190_2, hr190⟩ := hZ190
  replace hr190 := hr190.symm; subst hr190
  refine y86q rfl rfl hX190 (y39q (rd_op (y45q rfl rfl) (y40q (y39q (rd_op (y45q rfl rfl) (y40q (y39q (rd_op (y45q rfl rfl) ?_))))))))
  refine y40q (y39q (rd_op (y1q rfl) (y40q (y39q (rd_op (y1q rfl) (y40q (y39q (rd_op (y1q rfl) ?_))))))))
  refine y40q (rs_nil (y6q ?_))
  obtain ⟨v195, d195, r195⟩ := own_sl (P := Try.prog) (k := 0) (t := y4q.t) M194 rfl ns190_0 qs190_0 (Nat.le_trans hs190_0 (by decide))
  obtain ⟨v196, d196, r196⟩ := own_sl (P := Try.prog) (k := 1) (t := tI) M194 rfl ns190_1 qs190_1 (Nat.le_trans hs190_1 (by decide))
  obtain ⟨v197, d197, r197⟩ := own_sl (P := Try.prog) (k := 2) (t := tI) M194 rfl ns190_2 qs190_2 (Nat.le_trans hs190_2 (by decide))
  subst hres
  exact y35q (.tmp rfl (.tmp rfl (.tmp rfl .nil))) (deep_tup (dl_cons d195 (dl_cons d196 (dl_cons d197 dl_nil))) (y15q d195.1 (y15q d196.1 (y15q d197.1 y36q)))) ⟨v195, v196, v197, rfl, r195, r196, r197⟩

end Go.Proofs.Ytmonnlkagniolaa
