/-
 The code of each function does what its plain program says.
-/
import Derived.Test.YtmonnlkagniolaaL3W4
set_option linter.unusedVariables false
set_option linter.unusedSimpArgs false
set_option maxRecDepth 100000
namespace Go.Proofs.Ytmonnlkagniolaa
open Go Go.Pb Go.RowKit
/-- patchbay/access.Reads -/
def RF7 (res : (List Int)) (r : PV) : Prop := (tSl tI).R res r
theorem access_Reads_L1_ok {S : List Fr} {res : (List Int)} {x0 : y5q} {x1 : y49q} {y119 : y26q × Bool} {v101_c1 : PV} {v101_c2 : PV} {v101_c3 : PV} {v101_c4 : PV} {v101_c5 : PV} {v101_c6 : PV} {v101_c7 : PV} {v101_c8 : PV} {v120 : PV} {v125 : PV} {i102 : Nat} {w102 : Nat} {i121 : Nat} {w121 : Nat} (hA : AB x0) (hc : x1.Cond.length ≤ 1000) (hc104 : (decide (x1.Table = (-1))) = false) (hw119 : y92q x0 x1 = y119) (ek119 : y119.1.Keys.length ≤ 24 ∧ y119.1.Actions.length ≤ 24) (hc124 : (!y119.2) = false) (r125 : (tSl y57q.t).R y119.1.Keys v125) {K0 : y9q → (List Int)}
  (hK0 : ∀ (zE103 : y9q) (uwE103H : PV) (uwE103M : PV) (uwE103R : PV) (uwE103A : PV) (uwE103T : PV) (uwE103S : PV) (uwE103C : PV) (uwE103D : PV) (awE103_8 : PV) (eswE103_8 : List PV) (ruwE103H : (tSl y21q.t).R zE103.p.Headers uwE103H) (ruwE103M : (tSl y14q.t).R zE103.p.Metadata uwE103M) (ruwE103R : (tSl y27q.t).R zE103.p.Registers uwE103R) (ruwE103A : (tSl y23q.t).R zE103.p.Actions uwE103A) (ruwE103T : (tSl y26q.t).R zE103.p.Tables uwE103T) (ruwE103S : (tSl y16q.t).R zE103.p.States uwE103S) (ruwE103C : (tSl y8q.t).R zE103.p.Control uwE103C) (ruwE103D : (tSl tI).R zE103.p.Deparser uwE103D) (qswE103_8 : All2 tI.R zE103.cells eswE103_8) (newE103_8 : isL awE103_8 = true) (hlwE103_8 : zE103.cells.length ≤ 4611686018427387904) (wiwE103_9 : Wri awE103_8 eswE103_8) (po0 : zE103.cells.length ≤ 24) (h : Heap) (M0 : Mem h [⟨awE103_8, 3, 1, eswE103_8⟩, ⟨.op i121 w121 0, 55, 6, [v120]⟩, ⟨.op i102 w102 0, 70, 10, [.agg [vs zE103.p.Name, uwE103H, uwE103M, uwE103R, uwE103A, uwE103T, uwE103S, uwE103C, uwE103D, awE103_8]]⟩]), K0 zE103 = res → PX Try.prog 0 S (QR Try.prog [(4, none)] (RF7 res)) [(2, .fp (.agg [vs x0.Name, v101_c1, v101_c2, v101_c3, v101_c4, v101_c5, v101_c6, v101_c7, v101_c8])), (5, .op i102 w102 0), (6, .op i121 w121 0)] h) :
  ∀ (m : Nat) (x39_ : Int) (zE103 : y9q) (uwE103H : PV) (uwE103M : PV) (uwE103R : PV) (uwE103A : PV) (uwE103T : PV) (uwE103S : PV) (uwE103C : PV) (uwE103D : PV) (awE103_8 : PV) (eswE103_8 : List PV) (ruwE103H : (tSl y21q.t).R zE103.p.Headers uwE103H) (ruwE103M : (tSl y14q.t).R zE103.p.Metadata uwE103M) (ruwE103R : (tSl y27q.t).R zE103.p.Registers uwE103R) (ruwE103A : (tSl y23q.t).R zE103.p.Actions uwE103A) (ruwE103T : (tSl y26q.t).R zE103.p.Tables uwE103T) (ruwE103S : (tSl y16q.t).R zE103.p.States uwE103S) (ruwE103C : (tSl y8q.t).R zE103.p.Control uwE103C) (ruwE103D : (tSl tI).R zE103.p.Deparser uwE103D) (qswE103_8 : All2 tI.R zE103.cells eswE103_8) (newE103_8 : isL awE103_8 = true) (hlwE103_8 : zE103.cells.length ≤ 4611686018427387904) (wiwE103_9 : Wri awE103_8 eswE103_8) (hm1 : m = Int.toNat ((y119.1.Keys.length : Int) - x39_)) (hlo1 : 0 ≤ x39_) (iv1_0 : (zE103.cells.length : Int) ≤ x39_) (iv1_1 : x39_ ≤ 24) (h : Heap) (M0 : Mem h [⟨awE103_8, 3, 1, eswE103_8⟩, ⟨.op i121 w121 0, 55, 6, [v120]⟩, ⟨.op i102 w102 0, 70, 10, [.agg [vs zE103.p.Name, uwE103H, uwE103M, uwE103R, uwE103A, uwE103T, uwE103S, uwE103C, uwE103D, awE103_8]]⟩]), access_Reads_L1 y119 K0 m x39_ zE103 = res → RC Try.prog (.loop ac7_L1) S (QR Try.prog [(4, none)] (RF7 res)) [(39, vi x39_), (38, vi (y119.1.Keys.length : Int)), (37, v125), (6, .op i121 w121 0), (5, .op i102 w102 0), (2, .fp (.agg [vs x0.Name, v101_c1, v101_c2, v101_c3, v101_c4, v101_c5, v101_c6, v101_c7, v101_c8]))] h := by
 have hc' := hc
 try simp only [qa, qaD] at hc'
 have hc104' := hc104
 try simp only [qa, qaD] at hc104'
 have hc124' := hc124
 try simp only [qa, qaD] at hc124'
 intro m
 induction m with
 | zero =>
  intro x39_ zE103 uwE103H uwE103M uwE103R uwE103A uwE103T uwE103S uwE103C uwE103D awE103_8 eswE103_8 ruwE103H ruwE103M ruwE103R ruwE103A ruwE103T ruwE103S ruwE103C ruwE103D qswE103_8 newE103_8 hlwE103_8 wiwE103_9 hm1 hlo1 iv1_0 iv1_1 h M0 hres
  rw [access_Reads_L1] at hres
  refine y53q ?_
  unfold ac7_L1
  refine y7q (y2q (rd_op (y20q rfl rfl i_lss) (y10q (y6q (y7q ?_)))))
  refine y24q rfl (fun hc129 => ?_) (fun hc129 => ?_)
  ·exfalso
   try simp only [qa, qaD] at hc129
   omega
  ·have hend := hres
   have hc129' := hc129
   try simp only [qa, qaD] at hc129'
   refine y93q (px_seq (y78q ?_))
   exact y96q ((y3q rfl (y3q rfl (y3q rfl (y31q _))))) (hK0 ({ p := zE103.p, cells := zE103.cells } : y9q) uwE103H uwE103M uwE103R uwE103A uwE103T uwE103S uwE103C uwE103D awE103_8 eswE103_8 (show (tSl y21q.t).R zE103.p.Headers uwE103H from ruwE103H) (show (tSl y14q.t).R zE103.p.Metadata uwE103M from ruwE103M) (show (tSl y27q.t).R zE103.p.Registers uwE103R from ruwE103R) (show (tSl y23q.t).R zE103.p.Actions uwE103A from ruwE103A) (show (tSl y26q.t).R zE103.p.Tables uwE103T from ruwE103T) (show (tSl y16q.t).R zE103.p.States uwE103S from ruwE103S) (show (tSl y8q.t).R zE103.p.Control uwE103C from ruwE103C) (show (tSl tI).R zE103.p.Deparser uwE103D from ruwE103D) qswE103_8 newE103_8 hlwE103_8 wiwE103_9 (by omega) _ (Mem.sub M0 (.cons_cons _ (.cons_cons _ (.cons_cons _ .slnil)))) hres)
 | succ m ih =>
  intro x39_ zE103 uwE103H uwE103M uwE103R uwE103A uwE103T uwE103S uwE103C uwE103D awE103_8 eswE103_8 ruwE103H ruwE103M ruwE103R ruwE103A ruwE103T ruwE103S ruwE103C ruwE103D qswE103_8 newE103_8 hlwE103_8 wiwE103_9 hm1 hlo1 iv1_0 iv1_1 h M0 hres
  rw [access_Reads_L1] at hres
  refine y53q ?_
  unfold ac7_L1
  refine y7q (y2q (rd_op (y20q rfl rfl i_lss) (y10q (y6q (y7q ?_)))))
  refine y24q rfl (fun hc130 => ?_) (fun hc130 => ?_)
  ·have hgo := hres
   have hc130' := hc130
   try simp only [qa, qaD] at hc130'
   refine y34q (y6q (y7q (y42q (y7q (y2q ?_)))))
   obtain ⟨v131, e131, r131⟩ := y106q (i := x39_) r125 (by omega) (by omega)
   refine rd_op (y48q rfl rfl e131) (rd_op (y19q rfl (TR.cnt y57q.t r131) (TR.agg y57q.t r131)) ?_)
   refine y94q (x := .agg [vi 0, vi 0, vi 0]) M0 rfl rfl (fun i132 w132 h132 M132 => ?_)
   refine y89q (k := 0) (v := v131) M132 rfl rfl rfl (TR.cnt y57q.t r131) (fun h134 M134 => ?_)
   replace M134 : Mem h134 [⟨.op i132 w132 0, 79, 3, [v131]⟩, ⟨awE103_8, 3, 1, eswE103_8⟩, ⟨.op i121 w121 0, 55, 6, [v120]⟩, ⟨.op i102 w102 0, 70, 10, [.agg [vs zE103.p.Name, uwE103H, uwE103M, uwE103R, uwE103A, uwE103T, uwE103S, uwE103C, uwE103D, awE103_8]]⟩] := M134
   refine y10q (y6q (y75q (y39q (rd_op (y1q rfl) (y40q (y39q (rd_op (y33q rfl) (y40q ?_))))))))
   refine y39q ?_
   obtain ⟨v137, e137, r137⟩ := y57q.g_Field r131
   refine rd_op (y43q (k := 0) M134 rfl rfl e137) (y40q (y39q (rd_op (v := .fs true [v137]) (ov_bslice rfl (all_cons (TR.cnt y4q.t r137) all_nil)) ?_)))
   have r138 : (tSl y4q.t).R ([(ix y119.1.Keys x39_).Field] : List y4q) (.fs true [v137]) := sl_fs ⟨r137, trivial⟩ (by simp)
   refine y40q ?_
   have M139 : Mem h134 [⟨.op i102 w102 0, 70, 10, [.agg [vs zE103.p.Name, uwE103H, uwE103M, uwE103R, uwE103A, uwE103T, uwE103S, uwE103C, uwE103D, awE103_8]]⟩, ⟨awE103_8, 3, 1, eswE103_8⟩, ⟨.op i132 w132 0, 79, 3, [v131]⟩, ⟨.op i121 w121 0, 55, 6, [v120]⟩] := (Mem.front (k := 3) (Mem.front (k := 1) M134 rfl) rfl)
   obtain ⟨y139, hw139, hres⟩ := y47q hres
   obtain ⟨vr139, h140, hX139, hZ139⟩ := f20_ok (x0 := ({ p := zE103.p, cells := zE103.cells } : y9q)) (x1 := ([(ix y119.1.Keys x39_).Field] : List y4q)) (x2 := ([] : List Int)) (x3 := ([] : List Int)) r138 sl_nil sl_nil ruwE103H ruwE103M ruwE103R ruwE103A ruwE103T ruwE103S ruwE103C ruwE103D qswE103_8 newE103_8 hlwE103_8 wiwE103_9 M139 (by first | omega | ((try dsimp only); (try simp only [List.length_append, List.length_cons, List.length_nil]); omega) | simp)
   rw [hw139] at hZ139
   obtain ⟨u139_0H, u139_0M, u139_0R, u139_0A, u139_0T, u139_0S, u139_0C, u139_0D, a139_0_8, es139_0_8, M140, ru139_0H, ru139_0M, ru139_0R, ru139_0A, ru139_0T, ru139_0S, ru139_0C, ru139_0D, qs139_0_8, ne139_0_8, hl139_0_8, wi139_0_9, hr139⟩ := hZ139
   replace hr139 := hr139.symm; subst hr139
   refine y86q rfl rfl hX139 ?_
   have ek139 := add_len hw139; try simp only [List.length_cons, List.length_nil] at ek139; try dsimp only at ek139
   refine rs_nil (y67q (y6q (y2q (rd_op (y20q rfl rfl i_add) (rd_op (y1q rfl) (y10q ?_))))))
   have MO141 : Mem h140 [⟨a139_0_8, 3, 1, es139_0_8⟩, ⟨.op i121 w121 0, 55, 6, [v120]⟩, ⟨.op i102 w102 0, 70, 10, [.agg [vs y139.p.Name, u139_0H, u139_0M, u139_0R, u139_0A, u139_0T, u139_0S, u139_0C, u139_0D, a139_0_8]]⟩, ⟨.op i132 w132 0, 79, 3, [v131]⟩] := (Mem.front (k := 2) (Mem.front (k := 3) (Mem.front (k := 0) M140 rfl) rfl) rfl)
   refine y56q ?_
   have hbd := y58q r125
   have hinc : wr (x39_ + 1) = x39_ + 1 := wr_of (by omega) (by omega)
   rw [hinc]
   refine y37q ?_ (ih (x39_ + 1) ({ p := y139.p, cells := y139.cells } : y9q) u139_0H u139_0M u139_0R u139_0A u139_0T u139_0S u139_0C u139_0D a139_0_8 es139_0_8 (show (tSl y21q.t).R y139.p.Headers u139_0H from ru139_0H) (show (tSl y14q.t).R y139.p.Metadata u139_0M from ru139_0M) (show (tSl y27q.t).R y139.p.Registers u139_0R from ru139_0R) (show (tSl y23q.t).R y139.p.Actions u139_0A from ru139_0A) (show (tSl y26q.t).R y139.p.Tables u139_0T from ru139_0T) (show (tSl y16q.t).R y139.p.States u139_0S from ru139_0S) (show (tSl y8q.t).R y139.p.Control u139_0C from ru139_0C) (show (tSl tI).R y139.p.Deparser u139_0D from ru139_0D) qs139_0_8 ne139_0_8 hl139_0_8 wi139_0_9 (by omega) (by omega) (by first | omega | ((try dsimp only); (try simp only [List.length_append, List.length_cons, List.length_nil]); omega) | simp) (by first | omega | ((try dsimp only); (try simp only [List.length_append, List.length_cons, List.length_nil]); omega) | simp) _ (Mem.sub MO141 (.cons_cons _ (.cons_cons _ (.cons_cons _ (.cons _ .slnil))))) hres)
   exact ((y3q rfl (y3q rfl (y3q rfl (y3q rfl (y3q rfl (y3q rfl (y31q _))))))))
  ·exfalso
   try simp only [qa, qaD] at hc130
   omega

theorem access_Reads_L2_ok {S : List Fr} {res : (List Int)} {x0 : y5q} {x1 : y49q} {y119 : y26q × Bool} {zE103_142 : y9q} {v101_c1 : PV} {v101_c2 : PV} {v101_c3 : PV} {v101_c4 : PV} {v101_c5 : PV} {v101_c6 : PV} {v101_c7 : PV} {v101_c8 : PV} {uw142E103H : PV} {uw142E103M : PV} {uw142E103R : PV} {uw142E103A : PV} {uw142E103T : PV} {uw142E103S : PV} {uw142E103C : PV} {uw142E103D : PV} {aw142E103_8 : PV} {esw142E103_8 : List PV} {v143 : PV} {i102 : Nat} {w102 : Nat} (hA : AB x0) (hc : x1.Cond.length ≤ 1000) (hc104 : (decide (x1.Table = (-1))) = false) (hw119 : y92q x0 x1 = y119) (ek119 : y119.1.Keys.length ≤ 24 ∧ y119.1.Actions.length ≤ 24) (hc124 : (!y119.2) = false) (r128 : y5q.t.R x0 (.agg [vs x0.Name, v101_c1, v101_c2, v101_c3, v101_c4, v101_c5, v101_c6, v101_c7, v101_c8])) (ruw142E103H : (tSl y21q.t).R zE103_142.p.Headers uw142E103H) (ruw142E103M : (tSl y14q.t).R zE103_142.p.Metadata uw142E103M) (ruw142E103R : (tSl y27q.t).R zE103_142.p.Registers uw142E103R) (ruw142E103A : (tSl y23q.t).R zE103_142.p.Actions uw142E103A) (ruw142E103T : (tSl y26q.t).R zE103_142.p.Tables uw142E103T) (ruw142E103S : (tSl y16q.t).R zE103_142.p.States uw142E103S) (ruw142E103C : (tSl y8q.t).R zE103_142.p.Control uw142E103C) (ruw142E103D : (tSl tI).R zE103_142.p.Deparser uw142E103D) (new142E103_8 : isL aw142E103_8 = true) (hlw142E103_8 : zE103_142.cells.length ≤ 4611686018427387904) (wiw142E103_9 : Wri aw142E103_8 esw142E103_8) (po142_0 : zE103_142.cells.length ≤ 24) (r143 : (tSl tI).R y119.1.Actions v143) {K2 : y9q → (List Int)}
  (hK2 : ∀ (zE103 : y9q) (uwE103H : PV) (uwE103M : PV) (uwE103R : PV) (uwE103A : PV) (uwE103T : PV) (uwE103S : PV) (uwE103C : PV) (uwE103D : PV) (awE103_8 : PV) (eswE103_8 : List PV) (ruwE103H : (tSl y21q.t).R zE103.p.Headers uwE103H) (ruwE103M : (tSl y14q.t).R zE103.p.Metadata uwE103M) (ruwE103R : (tSl y27q.t).R zE103.p.Registers uwE103R) (ruwE103A : (tSl y23q.t).R zE103.p.Actions uwE103A) (ruwE103T : (tSl y26q.t).R zE103.p.Tables uwE103T) (ruwE103S : (tSl y16q.t).R zE103.p.States uwE103S) (ruwE103C : (tSl y8q.t).R zE103.p.Control uwE103C) (ruwE103D : (tSl tI).R zE103.p.Deparser uwE103D) (qswE103_8 : All2 tI.R zE103.cells eswE103_8) (newE103_8 : isL awE103_8 = true) (hlwE103_8 : zE103.cells.length ≤ 4611686018427387904) (wiwE103_9 : Wri awE103_8 eswE103_8) (po0 : zE103.cells.length ≤ 960000) (h : Heap) (M0 : Mem h [⟨awE103_8, 3, 1, eswE103_8⟩, ⟨.op i102 w102 0, 70, 10, [.agg [vs zE103.p.Name, uwE103H, uwE103M, uwE103R, uwE103A, uwE103T, uwE103S, uwE103C, uwE103D, awE103_8]]⟩]), K2 zE103 = res → PX Try.prog 2 S (QR Try.prog [(4, none)] (RF7 res)) [(5, .op i102 w102 0)] h) :
  ∀ (m : Nat) (x52_ : Int) (zE103 : y9q) (uwE103H : PV) (uwE103M : PV) (uwE103R : PV) (uwE103A : PV) (uwE103T : PV) (uwE103S : PV) (uwE103C : PV) (uwE103D : PV) (awE103_8 : PV) (eswE103_8 : List PV) (ruwE103H : (tSl y21q.t).R zE103.p.Headers uwE103H) (ruwE103M : (tSl y14q.t).R zE103.p.Metadata uwE103M) (ruwE103R : (tSl y27q.t).R zE103.p.Registers uwE103R) (ruwE103A : (tSl y23q.t).R zE103.p.Actions uwE103A) (ruwE103T : (tSl y26q.t).R zE103.p.Tables uwE103T) (ruwE103S : (tSl y16q.t).R zE103.p.States uwE103S) (ruwE103C : (tSl y8q.t).R zE103.p.Control uwE103C) (ruwE103D : (tSl tI).R zE103.p.Deparser uwE103D) (qswE103_8 : All2 tI.R zE103.cells eswE103_8) (newE103_8 : isL awE103_8 = true) (hlwE103_8 : zE103.cells.length ≤ 4611686018427387904) (wiwE103_9 : Wri awE103_8 eswE103_8) (hm2 : m = Int.toNat ((y119.1.Actions.length : Int) - x52_)) (hlo2 : 0 ≤ x52_) (iv2_0 : (zE103.cells.length : Int) ≤ 24 + 39000 * x52_) (iv2_1 : x52_ ≤ 24) (h : Heap) (M0 : Mem h [⟨awE103_8, 3, 1, eswE103_8⟩, ⟨.op i102 w102 0, 70, 10, [.agg [vs zE103.p.Name, uwE103H, uwE103M, uwE103R, uwE103A, uwE103T, uwE103S, uwE103C, uwE103D, awE103_8]]⟩]), access_Reads_L2 x0 y119 K2 m x52_ zE103 = res → RC Try.prog (.loop ac7_L2) S (QR Try.prog [(4, none)] (RF7 res)) [(52, vi x52_), (51, vi (y119.1.Actions.length : Int)), (50, v143), (5, .op i102 w102 0), (2, .fp (.agg [vs x0.Name, v101_c1, v101_c2, v101_c3, v101_c4, v101_c5, v101_c6, v101_c7, v101_c8]))] h := by
 have hc' := hc
 try simp only [qa, qaD] at hc'
 have hc104' := hc104
 try simp only [qa, qaD] at hc104'
 have hc124' := hc124
 try simp only [qa, qaD] at hc124'
 intro m
 induction m with
 | zero =>
  intro x52_ zE103 uwE103H uwE103M uwE103R uwE103A uwE103T uwE103S uwE103C uwE103D awE103_8 eswE103_8 ruwE103H ruwE103M ruwE103R ruwE103A ruwE103T ruwE103S ruwE103C ruwE103D qswE103_8 newE103_8 hlwE103_8 wiwE103_9 hm2 hlo2 iv2_0 iv2_1 h M0 hres
  rw [access_Reads_L2] at hres
  refine y53q ?_
  unfold ac7_L2
  refine y7q (y2q (rd_op (y20q rfl rfl i_lss) (y10q (y6q (y7q ?_)))))
  refine y24q rfl (fun hc144 => ?_) (fun hc144 => ?_)
  ·exfalso
   try simp only [qa, qaD] at hc144
   omega
  ·have hend := hres
   have hc144' := hc144
   try simp only [qa, qaD] at hc144'
   refine y93q (px_seq (y78q ?_))
   exact y96q ((y3q rfl (y31q _))) (hK2 ({ p := zE103.p, cells := zE103.cells } : y9q) uwE103H uwE103M uwE103R uwE103A uwE103T uwE103S uwE103C uwE103D awE103_8 eswE103_8 (show (tSl y21q.t).R zE103.p.Headers uwE103H from ruwE103H) (show (tSl y14q.t).R zE103.p.Metadata uwE103M from ruwE103M) (show (tSl y27q.t).R zE103.p.Registers uwE103R from ruwE103R) (show (tSl y23q.t).R zE103.p.Actions uwE103A from ruwE103A) (show (tSl y26q.t).R zE103.p.Tables uwE103T from ruwE103T) (show (tSl y16q.t).R zE103.p.States uwE103S from ruwE103S) (show (tSl y8q.t).R zE103.p.Control uwE103C from ruwE103C) (show (tSl tI).R zE103.p.Deparser uwE103D from ruwE103D) qswE103_8 newE103_8 hlwE103_8 wiwE103_9 (by omega) _ (Mem.sub M0 (.cons_cons _ (.cons_cons _ .slnil))) hres)
 | succ m ih =>
  intro x52_ zE103 uwE103H uwE103M uwE103R uwE103A uwE103T uwE103S uwE103C uwE103D awE103_8 eswE103_8 ruwE103H ruwE103M ruwE103R ruwE103A ruwE103T ruwE103S ruwE103C ruwE103D qswE103_8 newE103_8 hlwE103_8 wiwE103_9 hm2 hlo2 iv2_0 iv2_1 h M0 hres
  rw [access_Reads_L2] at hres
  refine y53q ?_
  unfold ac7_L2
  refine y7q (y2q (rd_op (y20q rfl rfl i_lss) (y10q (y6q (y7q ?_)))))
  refine y24q rfl (fun hc145 => ?_) (fun hc145 => ?_)
  ·have hgo := hres
   have hc145' := hc145
   try simp only [qa, qaD] at hc145'
   refine y34q (y6q (y7q (y42q (y7q (y2q (rd_op (y48q rfl rfl (slI r143 (by omega) (by omega))) (rd_op (y19q rfl rfl rfl) (rd_op (y1q rfl) ?_))))))))
   refine y10q (y6q (y75q (y39q (rd_op (y1q rfl) (y40q (y39q (rd_op (y19q rfl (TR.cnt y5q.t r128) (TR.agg y5q.t r128)) (y40q ?_))))))))
   refine y39q (rd_op (y1q rfl) (y40q (y39q ?_)))
   obtain ⟨y150, hw150, hres⟩ := y47q hres
   obtain ⟨v151, v152, v153, f150, r151, r152, r153⟩ := f25_ok (x1 := (ix y119.1.Actions x52_)) r128 
   rw [hw150] at r151 r152 r153
   have ek150 : y150.1.length ≤ 13000 ∧ y150.2.1.length ≤ 13000 ∧ y150.2.2.length ≤ 13000 := areads_len hw150
   refine y52q (cv_fn rfl rfl (y15q (TR.clo y5q.t r128) (y15q rfl y36q)) f150) (y40q (y39q (rd_op (y45q rfl rfl) (y40q (y39q (rd_op (y45q rfl rfl) (y40q (y39q ?_))))))))
   refine rd_op (y45q rfl rfl) (y40q ?_)
   have M154 : Mem h [⟨.op i102 w102 0, 70, 10, [.agg [vs zE103.p.Name, uwE103H, uwE103M, uwE103R, uwE103A, uwE103T, uwE103S, uwE103C, uwE103D, awE103_8]]⟩, ⟨awE103_8, 3, 1, eswE103_8⟩] := (Mem.front (k := 1) (Mem.front (k := 0) M0 rfl) rfl)
   obtain ⟨y154, hw154, hres⟩ := y47q hres
   obtain ⟨vr154, h155, hX154, hZ154⟩ := f20_ok (x0 := ({ p := zE103.p, cells := zE103.cells } : y9q)) (x1 := y150.1) (x2 := y150.2.1) (x3 := y150.2.2) r151 r152 r153 ruwE103H ruwE103M ruwE103R ruwE103A ruwE103T ruwE103S ruwE103C ruwE103D qswE103_8 newE103_8 hlwE103_8 wiwE103_9 M154 (by first | omega | ((try dsimp only); (try simp only [List.length_append, List.length_cons, List.length_nil]); omega) | simp)
   rw [hw154] at hZ154
   obtain ⟨u154_0H, u154_0M, u154_0R, u154_0A, u154_0T, u154_0S, u154_0C, u154_0D, a154_0_8, es154_0_8, M155, ru154_0H, ru154_0M, ru154_0R, ru154_0A, ru154_0T, ru154_0S, ru154_0C, ru154_0D, qs154_0_8, ne154_0_8, hl154_0_8, wi154_0_9, hr154⟩ := hZ154
   replace hr154 := hr154.symm; subst hr154
   refine y86q rfl rfl hX154 ?_
   have ek154 := add_len hw154; try simp only [List.length_cons, List.length_nil] at ek154; try dsimp only at ek154
   refine rs_nil (y67q (y6q (y2q (rd_op (y20q rfl rfl i_add) (rd_op (y1q rfl) (y10q ?_))))))
   have MO156 : Mem h155 [⟨a154_0_8, 3, 1, es154_0_8⟩, ⟨.op i102 w102 0, 70, 10, [.agg [vs y154.p.Name, u154_0H, u154_0M, u154_0R, u154_0A, u154_0T, u154_0S, u154_0C, u154_0D, a154_0_8]]⟩] := (Mem.front (k := 1) (Mem.front (k := 0) M155 rfl) rfl)
   refine y56q ?_
   have hbd := y58q r143
   have hinc : wr (x52_ + 1) = x52_ + 1 := wr_of (by omega) (by omega)
   rw [hinc]
   refine y37q ?_ (ih (x52_ + 1) ({ p := y154.p, cells := y154.cells } : y9q) u154_0H u154_0M u154_0R u154_0A u154_0T u154_0S u154_0C u154_0D a154_0_8 es154_0_8 (show (tSl y21q.t).R y154.p.Headers u154_0H from ru154_0H) (show (tSl y14q.t).R y154.p.Metadata u154_0M from ru154_0M) (show (tSl y27q.t).R y154.p.Registers u154_0R from ru154_0R) (show (tSl y23q.t).R y154.p.Actions u154_0A from ru154_0A) (show (tSl y26q.t).R y154.p.Tables u154_0T from ru154_0T) (show (tSl y16q.t).R y154.p.States u154_0S from ru154_0S) (show (tSl y8q.t).R y154.p.Control u154_0C from ru154_0C) (show (tSl tI).R y154.p.Deparser u154_0D from ru154_0D) qs154_0_8 ne154_0_8 hl154_0_8 wi154_0_9 (by omega) (by omega) (by first | omega | ((try dsimp only); (try simp only [List.length_append, List.length_cons, List.length_nil]); omega) | simp) (by first | omega | ((try dsimp only); (try simp only [List.length_append, List.length_cons, List.length_nil]); omega) | simp) _ (Mem.sub MO156 (.cons_cons _ (.cons_cons _ .slnil))) hres)
   exact ((y3q rfl (y3q rfl (y3q rfl (y3q rfl (y3q rfl (y31q _)))))))
  ·exfalso
   try simp only [qa, qaD] at hc145
   omega

theorem f7_ok {x0 : y5q} {x1 : y49q} {v0 : PV} {v1 : PV} (r0 : y5q.t.R x0 v0) (r1 : y49q.t.R x1 v1) (hA : AB x0) (hc : x1.Cond.length ≤ 1000) : ∃ r, FnR Try.prog 7 [v0, v1] r ∧ (tSl tI).R (access_Reads x0 x1) r := by
 obtain ⟨res, hres⟩ : ∃ res, access_Reads x0 x1 = res := ⟨_, rfl⟩
 suffices H : RC Try.prog ac7 [] (QR Try.prog [(4, none)] (RF7 res)) (argE 0 [v0, v1]) ⟨0, []⟩ by
  rw [hres]
  exact fnE text7 (by simp) H
 unfold access_Reads at hres
 unfold ac7
 refine y7q (y2q (rd_op (y102q rfl (TR.cnt y5q.t r0)) (rd_op (y102q rfl (TR.cnt y49q.t r1)) (rd_op (v := nilS) (y1q rfl) (y10q (y6q (y7q (y2q ?_))))))))
 refine rd_op (y19q rfl (TR.cnt y5q.t r0) (TR.agg y5q.t r0)) ?_
 obtain ⟨v101_c1, v101_c2, v101_c3, v101_c4, v101_c5, v101_c6, v101_c7, v101_c8, e101, r101_c1, r101_c2, r101_c3, r101_c4, r101_c5, r101_c6, r101_c7, r101_c8⟩ := r0
 subst e101
 refine rd_op (v := .agg [vs x0.Name, v101_c1, v101_c2, v101_c3, v101_c4, v101_c5, v101_c6, v101_c7, v101_c8, nilS]) (ov_build (cs := [vs x0.Name, v101_c1, v101_c2, v101_c3, v101_c4, v101_c5, v101_c6, v101_c7, v101_c8, nilS]) rfl rfl) ?_
 refine rd_boxO (x := .agg [vs x0.Name, v101_c1, v101_c2, v101_c3, v101_c4, v101_c5, v101_c6, v101_c7, v101_c8, nilS]) (Mem.nil ⟨0, []⟩) rfl rfl (fun i102 w102 h102 M102 => ?_)
 refine rd_op (y1q rfl) (y10q (y6q (y7q (y7q (y2q (rd_op (y22q rfl (y49q.g_Table r1)) (rd_op (y19q rfl rfl rfl) (rd_op (y20q rfl rfl i_eql) ?_))))))))
 refine y10q (y6q ?_)
 refine y24q rfl (fun hc104 => ?_) (fun hc104 => ?_)
 ·replace hres := (ite_t hc104).symm.trans hres
  have hc104' := hc104
  try simp only [qa, qaD] at hc104'
  refine y7q (rc_regionT (rd_op (y1q rfl) ?_))
  obtain ⟨v105, e105, r105⟩ := y49q.g_Cond r1
  refine rd_op (y22q rfl e105) (rd_op (y19q rfl (TR.cnt (tSl y11q.t) r105) (TR.agg (tSl y11q.t) r105)) ?_)
  obtain ⟨y106, hw106, hres⟩ := y47q hres
  obtain ⟨v107, f106, r107⟩ := f21_ok  r105 (by first | assumption | omega | (rw [wr_of (by omega) (by omega)]; omega))
  rw [hw106] at r107
  have ek106 : y106.length ≤ x1.Cond.length := by rw [← hw106]; exact fields_len _
  refine y52q (cv_fn rfl rfl (y15q (TR.clo (tSl y11q.t) r105) y36q) f106) ?_
  obtain ⟨v108, e108, r108⟩ := y49q.g_Cond r1
  refine rd_op (y22q rfl e108) (rd_op (y19q rfl (TR.cnt (tSl y11q.t) r108) (TR.agg (tSl y11q.t) r108)) ?_)
  obtain ⟨y109, hw109, hres⟩ := y47q hres
  obtain ⟨v110, f109, r110⟩ := f22_ok  r108 (by first | assumption | omega | (rw [wr_of (by omega) (by omega)]; omega))
  rw [hw109] at r110
  have ek109 : y109.length ≤ x1.Cond.length := by rw [← hw109]; exact headers_len _
  refine y52q (cv_fn rfl rfl (y15q (TR.clo (tSl y11q.t) r108) y36q) f109) ?_
  refine y10q (pn_lastS ?_)
  have M112 := mem_acc (sz := 1) (es := []) M102 3 (.inl ⟨none, rfl, rfl⟩) (by simp)
  have M111 : Mem h102 [⟨.op i102 w102 0, 70, 10, [.agg [vs x0.Name, v101_c1, v101_c2, v101_c3, v101_c4, v101_c5, v101_c6, v101_c7, v101_c8, nilS]]⟩, ⟨nilS, 3, 1, ([] : List PV)⟩] := (Mem.front (k := 1) (Mem.front (k := 0) M112 rfl) rfl)
  obtain ⟨y111, hw111, hres⟩ := y47q hres
  obtain ⟨vr111, h114, hX111, hZ111⟩ := f20_ok (x0 := ({ p := x0, cells := ([] : List Int) } : y9q)) (x1 := y106) (x2 := y109) (x3 := ([] : List Int)) r107 r110 sl_nil r101_c1 r101_c2 r101_c3 r101_c4 r101_c5 r101_c6 r101_c7 r101_c8 (show All2 tI.R ([] : List Int) [] from trivial) rfl (by first | decide | simp) (.inl rfl) M111 (by first | omega | ((try dsimp only); (try simp only [List.length_append, List.length_cons, List.length_nil]); omega) | simp)
  rw [hw111] at hZ111
  obtain ⟨u111_0H, u111_0M, u111_0R, u111_0A, u111_0T, u111_0S, u111_0C, u111_0D, a111_0_8, es111_0_8, M114, ru111_0H, ru111_0M, ru111_0R, ru111_0A, ru111_0T, ru111_0S, ru111_0C, ru111_0D, qs111_0_8, ne111_0_8, hl111_0_8, wi111_0_9, hr111⟩ := hZ111
  replace hr111 := hr111.symm; subst hr111
  refine y86q rfl rfl hX111 ?_
  have ek111 := add_len hw111; try simp only [List.length_cons, List.length_nil] at ek111; try dsimp only at ek111
  refine rs_nil (y6q (y7q (y75q (y39q (rd_op (y1q rfl) (y40q ?_))))))
  have M115 : Mem h114 [⟨.op i102 w102 0, 70, 10, [.agg [vs y111.p.Name, u111_0H, u111_0M, u111_0R, u111_0A, u111_0T, u111_0S, u111_0C, u111_0D, a111_0_8]]⟩, ⟨a111_0_8, 3, 1, es111_0_8⟩] := (Mem.front (k := 1) (Mem.front (k := 1) M114 rfl) rfl)
  obtain ⟨y115, hw115, hres⟩ := y47q hres
  obtain ⟨vr115, h117, hX115, hZ115⟩ := f23_ok (x0 := ({ p := y111.p, cells := y111.cells } : y9q)) ru111_0H ru111_0M ru111_0R ru111_0A ru111_0T ru111_0S ru111_0C ru111_0D qs111_0_8 ne111_0_8 hl111_0_8 wi111_0_9 M115 (by first | omega | ((try dsimp only); (try simp only [List.length_append, List.length_cons, List.length_nil]); omega) | simp)
  rw [hw115] at hZ115
  obtain ⟨as115_0, es115_0, M117, qs115_0, ns115_0, hs115_0, wi115_0, hr115⟩ := hZ115
  replace hr115 := hr115.symm; subst hr115
  refine y86q rfl rfl hX115 (y39q (rd_op (y1q rfl) (y40q (rs_nil (y6q ?_)))))
  obtain ⟨v118, d118, r118⟩ := own_sl (P := Try.prog) (k := 0) (t := tI) M117 rfl ns115_0 qs115_0 (Nat.le_trans hs115_0 (by decide))
  subst hres
  exact y35q (.tmp rfl .nil) d118 r118
 ·replace hres := (ite_f hc104).symm.trans hres
  have hc104' := hc104
  try simp only [qa, qaD] at hc104'
  refine y34q (y6q (y7q (y2q (rd_op (y19q rfl rfl rfl) (rd_op (y19q rfl (TR.cnt y49q.t r1) (TR.agg y49q.t r1)) ?_)))))
  obtain ⟨y119, hw119, hres⟩ := y47q hres
  obtain ⟨v120, f119, r120⟩ := f24_ok  (show y5q.t.R x0 (.agg [vs x0.Name, v101_c1, v101_c2, v101_c3, v101_c4, v101_c5, v101_c6, v101_c7, v101_c8]) from ⟨v101_c1, v101_c2, v101_c3, v101_c4, v101_c5, v101_c6, v101_c7, v101_c8, rfl, r101_c1, r101_c2, r101_c3, r101_c4, r101_c5, r101_c6, r101_c7, r101_c8⟩) r1 
  rw [hw119] at f119 r120
  have ek119 : y119.1.Keys.length ≤ 24 ∧ y119.1.Actions.length ≤ 24 := declared_ok hw119 hA
  refine y52q (cv_fn rfl rfl (y15q (TR.clo y5q.t (show y5q.t.R x0 (.agg [vs x0.Name, v101_c1, v101_c2, v101_c3, v101_c4, v101_c5, v101_c6, v101_c7, v101_c8]) from ⟨v101_c1, v101_c2, v101_c3, v101_c4, v101_c5, v101_c6, v101_c7, v101_c8, rfl, r101_c1, r101_c2, r101_c3, r101_c4, r101_c5, r101_c6, r101_c7, r101_c8⟩)) (y15q (TR.clo y49q.t r1) y36q)) f119) (rd_op (y1q rfl) (rd_op (y45q rfl rfl) (rd_op (y45q rfl rfl) ?_)))
  refine y94q (x := .agg [vs [], nilS, nilS, vi 0, nilS, vi 0]) M102 rfl rfl (fun i121 w121 h121 M121 => ?_)
  refine y89q (k := 0) (v := v120) M121 rfl rfl rfl (TR.cnt y26q.t r120) (fun h123 M123 => ?_)
  replace M123 : Mem h123 [⟨.op i121 w121 0, 55, 6, [v120]⟩, ⟨.op i102 w102 0, 70, 10, [.agg [vs x0.Name, v101_c1, v101_c2, v101_c3, v101_c4, v101_c5, v101_c6, v101_c7, v101_c8, nilS]]⟩] := M123
  refine rd_op (y1q rfl) (y10q (y6q (y7q (y7q (y2q (rd_op (y1q rfl) (rd_op (ov_not rfl) (y10q ?_))))))))
  refine y6q ?_
  refine y24q rfl (fun hc124 => ?_) (fun hc124 => ?_)
  ·replace hres := (ite_t hc124).symm.trans hres
   have hc124' := hc124
   try simp only [qa, qaD] at hc124'
   refine y7q (y2q (rd_op (v := nilS) (y1q rfl) (y10q (y6q ?_))))
   subst hres
   exact y35q (.tmp rfl .nil) (y17q (TR.clo (tSl tI) sl_nil)) sl_nil
  ·replace hres := (ite_f hc124).symm.trans hres
   have hc124' := hc124
   try simp only [qa, qaD] at hc124'
   refine y34q (y6q (y7q (y7q (y2q (rd_op (y33q rfl) ?_)))))
   obtain ⟨v125, e125, r125⟩ := y26q.g_Keys r120
   refine rd_op (y43q (k := 0) M123 rfl rfl e125) (rd_op (ov_bi rfl (y62q r125 Try.underlying50 _)) (rd_op (v := vi 0) (y1q rfl) (y10q (y6q (y42q ?_)))))
   have M126 := mem_acc (sz := 1) (es := []) M123 3 (.inl ⟨none, rfl, rfl⟩) (by simp)
   have r128 : y5q.t.R x0 (.agg [vs x0.Name, v101_c1, v101_c2, v101_c3, v101_c4, v101_c5, v101_c6, v101_c7, v101_c8]) := ⟨v101_c1, v101_c2, v101_c3, v101_c4, v101_c5, v101_c6, v101_c7, v101_c8, rfl, r101_c1, r101_c2, r101_c3, r101_c4, r101_c5, r101_c6, r101_c7, r101_c8⟩
   refine y37q ?_ (access_Reads_L1_ok (x0 := x0) (x1 := x1) (y119 := y119) (v101_c1 := v101_c1) (v101_c2 := v101_c2) (v101_c3 := v101_c3) (v101_c4 := v101_c4) (v101_c5 := v101_c5) (v101_c6 := v101_c6) (v101_c7 := v101_c7) (v101_c8 := v101_c8) (v120 := v120) (v125 := v125) (i102 := i102) (w102 := w102) (i121 := i121) (w121 := w121) (hA := hA) (hc := hc) (hc104 := hc104) (hw119 := hw119) (ek119 := ek119) (hc124 := hc124) (r125 := r125) ?_ (Int.toNat ((y119.1.Keys.length : Int) - 0)) 0 ({ p := x0, cells := ([] : List Int) } : y9q) v101_c1 v101_c2 v101_c3 v101_c4 v101_c5 v101_c6 v101_c7 v101_c8 nilS ([] : List PV) (show (tSl y21q.t).R x0.Headers v101_c1 from r101_c1) (show (tSl y14q.t).R x0.Metadata v101_c2 from r101_c2) (show (tSl y27q.t).R x0.Registers v101_c3 from r101_c3) (show (tSl y23q.t).R x0.Actions v101_c4 from r101_c4) (show (tSl y26q.t).R x0.Tables v101_c5 from r101_c5) (show (tSl y16q.t).R x0.States v101_c6 from r101_c6) (show (tSl y8q.t).R x0.Control v101_c7 from r101_c7) (show (tSl tI).R x0.Deparser v101_c8 from r101_c8) (show All2 tI.R ([] : List Int) [] from trivial) rfl (by first | decide | simp) (.inl rfl) rfl (by omega) (by first | omega | ((try dsimp only); (try simp only [List.length_append, List.length_cons, List.length_nil]); omega) | simp) (by first | omega | ((try dsimp only); (try simp only [List.length_append, List.length_cons, List.length_nil]); omega) | simp) _ (Mem.sub M126 (.cons_cons _ (.cons_cons _ (.cons_cons _ .slnil)))) hres)
   ·exact ((y3q rfl (y3q rfl (y3q rfl (y3q rfl (y3q rfl (y3q rfl (y31q _))))))))
   ·intro zE103_142 uw142E103H uw142E103M uw142E103R uw142E103A uw142E103T uw142E103S uw142E103C uw142E103D aw142E103_8 esw142E103_8 ruw142E103H ruw142E103M ruw142E103R ruw142E103A ruw142E103T ruw142E103S ruw142E103C ruw142E103D qsw142E103_8 new142E103_8 hlw142E103_8 wiw142E103_9 po142_0 h142 M142 hres
    refine px_blk (y6q (y7q (y7q (y2q (rd_op (y33q rfl) ?_)))))
    obtain ⟨v143, e143, r143⟩ := y26q.g_Actions r120
    refine rd_op (y43q (k := 1) M142 rfl rfl e143) (rd_op (ov_bi rfl (y62q r143 Try.underlying29 _)) (rd_op (v := vi 0) (y1q rfl) (y10q (y6q (y42q ?_)))))
    refine y37q ?_ (access_Reads_L2_ok (x0 := x0) (x1 := x1) (y119 := y119) (zE103_142 := zE103_142) (v101_c1 := v101_c1) (v101_c2 := v101_c2) (v101_c3 := v101_c3) (v101_c4 := v101_c4) (v101_c5 := v101_c5) (v101_c6 := v101_c6) (v101_c7 := v101_c7) (v101_c8 := v101_c8) (uw142E103H := uw142E103H) (uw142E103M := uw142E103M) (uw142E103R := uw142E103R) (uw142E103A := uw142E103A) (uw142E103T := uw142E103T) (uw142E103S := uw142E103S) (uw142E103C := uw142E103C) (uw142E103D := uw142E103D) (aw142E103_8 := aw142E103_8) (esw142E103_8 := esw142E103_8) (v143 := v143) (i102 := i102) (w102 := w102) (hA := hA) (hc := hc) (hc104 := hc104) (hw119 := hw119) (ek119 := ek119) (hc124 := hc124) (r128 := r128) (ruw142E103H := ruw142E103H) (ruw142E103M := ruw142E103M) (ruw142E103R := ruw142E103R) (ruw142E103A := ruw142E103A) (ruw142E103T := ruw142E103T) (ruw142E103S := ruw142E103S) (ruw142E103C := ruw142E103C) (ruw142E103D := ruw142E103D) (new142E103_8 := new142E103_8) (hlw142E103_8 := hlw142E103_8) (wiw142E103_9 := wiw142E103_9) (po142_0 := po142_0) (r143 := r143) ?_ (Int.toNat ((y119.1.Actions.length : Int) - 0)) 0 ({ p := zE103_142.p, cells := zE103_142.cells } : y9q) uw142E103H uw142E103M uw142E103R uw142E103A uw142E103T uw142E103S uw142E103C uw142E103D aw142E103_8 esw142E103_8 (show (tSl y21q.t).R zE103_142.p.Headers uw142E103H from ruw142E103H) (show (tSl y14q.t).R zE103_142.p.Metadata uw142E103M from ruw142E103M) (show (tSl y27q.t).R zE103_142.p.Registers uw142E103R from ruw142E103R) (show (tSl y23q.t).R zE103_142.p.Actions uw142E103A from ruw142E103A) (show (tSl y26q.t).R zE103_142.p.Tables uw142E103T from ruw142E103T) (show (tSl y16q.t).R zE103_142.p.States uw142E103S from ruw142E103S) (show (tSl y8q.t).R zE103_142.p.Control uw142E103C from ruw142E103C) (show (tSl tI).R zE103_142.p.Deparser uw142E103D from ruw142E103D) qsw142E103_8 new142E103_8 hlw142E103_8 wiw142E103_9 rfl (by omega) (by first | omega | ((try dsimp only); (try simp only [List.length_append, List.length_cons, List.length_nil]); omega) | simp) (by first | omega | ((try dsimp only); (try simp only [List.length_append, List.length_cons, List.length_nil]); omega) | simp) _ (Mem.sub M142 (.cons_cons _ (.cons _ (.cons_cons _ .slnil)))) hres)
    ·exact ((y3q rfl (y3q rfl (y3q rfl (y3q rfl (y3q rfl (y31q _)))))))
    ·intro zE103_157 uw157E103H uw157E103M uw157E103R uw157E103A uw157E103T uw157E103S uw157E103C uw157E103D aw157E103_8 esw157E103_8 ruw157E103H ruw157E103M ruw157E103R ruw157E103A ruw157E103T ruw157E103S ruw157E103C ruw157E103D qsw157E103_8 new157E103_8 hlw157E103_8 wiw157E103_9 po157_0 h157 M157 hres
     refine px_blk (y6q (y7q (y75q (y39q (rd_op (y1q rfl) (y40q ?_))))))
     have M158 : Mem h157 [⟨.op i102 w102 0, 70, 10, [.agg [vs zE103_157.p.Name, uw157E103H, uw157E103M, uw157E103R, uw157E103A, uw157E103T, uw157E103S, uw157E103C, uw157E103D, aw157E103_8]]⟩, ⟨aw157E103_8, 3, 1, esw157E103_8⟩] := (Mem.front (k := 1) (Mem.front (k := 0) M157 rfl) rfl)
     obtain ⟨y158, hw158, hres⟩ := y47q hres
     obtain ⟨vr158, h160, hX158, hZ158⟩ := f23_ok (x0 := ({ p := zE103_157.p, cells := zE103_157.cells } : y9q)) ruw157E103H ruw157E103M ruw157E103R ruw157E103A ruw157E103T ruw157E103S ruw157E103C ruw157E103D qsw157E103_8 new157E103_8 hlw157E103_8 wiw157E103_9 M158 (by first | omega | ((try dsimp only); (try simp only [List.length_append, List.length_cons, List.length_nil]); omega) | simp)
     rw [hw158] at hZ158
     obtain ⟨as158_0, es158_0, M160, qs158_0, ns158_0, hs158_0, wi158_0, hr158⟩ := hZ158
     replace hr158 := hr158.symm; subst hr158
     refine y86q rfl rfl hX158 (y39q (rd_op (y1q rfl) (y40q (rs_nil (y6q ?_)))))
     obtain ⟨v161, d161, r161⟩ := own_sl (P := Try.prog) (k := 0) (t := tI) M160 rfl ns158_0 qs158_0 (Nat.le_trans hs158_0 (by decide))
     subst hres
     exact y35q (.tmp rfl .nil) d161 r161

/-- patchbay/access.Cells -/
def RF8 (res : Int) (r : PV) : Prop := r = vi res
theorem f8_ok {x0 : y5q} {v0 : PV} (r0 : y5q.t.R x0 v0) : FnR Try.prog 8 [v0] (vi (y79q x0)) := by
 obtain ⟨res, hres⟩ : ∃ res, y79q x0 = res := ⟨_, rfl⟩
 suffices H : RC Try.prog ac8 [] (QR Try.prog [(2, none)] (RF8 res)) (argE 0 [v0]) ⟨0, []⟩ by
  obtain ⟨r, h1, h2⟩ := fnE text8 (by simp) H
  rw [hres]
  have h2 : r = vi res := h2
  rw [← h2]; exact h1
 unfold y79q at hres
 unfold ac8
 refine y7q (y2q (rd_op (y102q rfl (TR.cnt y5q.t r0)) (rd_op (v := vi 0) (y1q rfl) (y10q (y6q (y7q (y2q (rd_op (y19q rfl (TR.cnt y5q.t r0) (TR.agg y5q.t r0)) ?_))))))))
 obtain ⟨y101, hw101, hres⟩ := y47q hres
 have f101 := f26_ok (x1 := 4) r0 
 rw [hw101] at f101
 refine y52q (cv_fn rfl rfl (y15q (TR.clo y5q.t r0) (y15q rfl y36q)) f101) (rd_op (y1q rfl) (y10q (y6q ?_)))
 subst hres
 exact y35q (.tmp rfl .nil) (y17q rfl) rfl

/-- patchbay/patchbaylaw31.sorted -/
def RF6 (res : Bool) (r : PV) : Prop := r = vb res
theorem law31_sorted_L1_ok {S : List Fr} {res : Bool} {x0 : List Int} {x1 : Int} {v0 : PV} (r0 : (tSl tI).R x0 v0) {K0 : Unit → Bool}
  (hK0 : K0 () = res → PX Try.prog 0 S (QR Try.prog [(4, none)] (RF6 res)) [] ⟨0, []⟩) :
  ∀ (m : Nat) (x5_ : Int) (hm1 : m = Int.toNat ((x0.length : Int) - x5_)) (hlo1 : 0 ≤ x5_), law31_sorted_L1 x0 x1 K0 m x5_ = res → RC Try.prog (.loop ac6_L1) S (QR Try.prog [(4, none)] (RF6 res)) [(5, vi x5_), (1, vi x1), (0, v0)] ⟨0, []⟩ := by
 intro m
 induction m with
 | zero =>
  intro x5_ hm1 hlo1 hres
  rw [law31_sorted_L1] at hres
  refine y53q ?_
  unfold ac6_L1
  refine y7q (y7q (y2q (rd_op (y1q rfl) (rd_op (y1q rfl) (rd_op (ov_bi rfl (y62q r0 Try.underlying29 _)) (rd_op (y20q rfl rfl i_lss) (y10q (y6q ?_))))))))
  refine y24q rfl (fun hc101 => ?_) (fun hc101 => ?_)
  ·exfalso
   try simp only [qa, qaD] at hc101
   omega
  ·have hend := hres
   have hc101' := hc101
   try simp only [qa, qaD] at hc101'
   refine y93q (px_seq (y78q ?_))
   exact y96q ((y31q _)) (hK0  hres)
 | succ m ih =>
  intro x5_ hm1 hlo1 hres
  rw [law31_sorted_L1] at hres
  refine y53q ?_
  unfold ac6_L1
  refine y7q (y7q (y2q (rd_op (y1q rfl) (rd_op (y1q rfl) (rd_op (ov_bi rfl (y62q r0 Try.underlying29 _)) (rd_op (y20q rfl rfl i_lss) (y10q (y6q ?_))))))))
  refine y24q rfl (fun hc102 => ?_) (fun hc102 => ?_)
  ·have hgo := hres
   have hc102' := hc102
   try simp only [qa, qaD] at hc102'
   refine y34q (y6q (y7q (y42q (y7q (y2q (rd_op (y1q rfl) (rd_op (y1q rfl) (rd_op (y48q rfl rfl (slI r0 (by first | omega | (have hbd := y58q r0; rw [wr_of (by omega) (by omega)]; omega)) (by first | omega | (have hbd := y58q r0; rw [wr_of (by omega) (by omega)]; omega)))) ?_))))))))
   refine rd_op (y19q rfl rfl rfl) (rd_op (y20q rfl rfl i_lss) (rd_op (y1q rfl) ?_))
   refine y63q (d := 24) (v := vb ((decide ((ix x0 x5_) < 0)) || (decide (x1 ≤ (ix x0 x5_))))) ?_ ?_
   ·intro S Q r
    simp only [ac6_G1, List.cons_append, List.nil_append, List.append_assoc]
    cases hb103 : (decide ((ix x0 x5_) < 0))
    ·intro k
     have hb103' := hb103
     try simp only [qa, qaD] at hb103'
     refine y18q rfl rfl (y1q rfl) (y18q rfl rfl (y1q rfl) (y18q rfl rfl (y48q rfl rfl (slI r0 (by first | omega | (have hbd := y58q r0; rw [wr_of (by omega) (by omega)]; omega)) (by first | omega | (have hbd := y58q r0; rw [wr_of (by omega) (by omega)]; omega)))) (y18q rfl rfl (y19q rfl rfl rfl) (y18q rfl rfl (y1q rfl) (y18q rfl rfl (y20q rfl rfl i_geq) (rd_op (v := vb (decide (x1 ≤ (ix x0 x5_)))) (y30q rfl rfl rfl rfl) ?_))))))
     exact y29q (y3q rfl (y0q rfl (y0q rfl (y0q rfl (y0q rfl (y0q rfl (y0q rfl (y0q rfl (y25q _))))))))) k
    ·intro k
     refine y12q rfl rfl (y12q rfl rfl (y12q rfl rfl (y12q rfl rfl (y12q rfl rfl (y12q rfl rfl (rd_op (v := vb true) (y30q rfl rfl rfl rfl) ?_))))))
     exact y29q (y3q rfl (y0q rfl (y0q rfl (y0q rfl (y0q rfl (y0q rfl (y0q rfl (y0q rfl (y25q _))))))))) k
   refine rd_op (y1q rfl) ?_
   refine y63q (d := 40) (v := vb (((decide ((ix x0 x5_) < 0)) || (decide (x1 ≤ (ix x0 x5_)))) || ((decide (0 < x5_)) && (decide ((ix x0 x5_) ≤ (ix x0 (wr (x5_ - 1)))))))) ?_ ?_
   ·intro S Q r
    simp only [ac6_G2, List.cons_append, List.nil_append, List.append_assoc]
    cases hb104 : ((decide ((ix x0 x5_) < 0)) || (decide (x1 ≤ (ix x0 x5_))))
    ·intro k
     have hb104' := hb104
     try simp only [qa, qaD] at hb104'
     refine y18q rfl rfl (y1q rfl) (y18q rfl rfl (y20q rfl rfl i_gtr) (y18q rfl rfl (y1q rfl) ?_))
     refine y63q (d := 39) (v := vb ((decide (0 < x5_)) && (decide ((ix x0 x5_) ≤ (ix x0 (wr (x5_ - 1))))))) ?_ ?_
     ·intro S Q r
      simp only [ac6_G3, List.cons_append, List.nil_append, List.append_assoc]
      cases hb105 : (decide (0 < x5_))
      ·intro k
       refine y12q rfl rfl (y12q rfl rfl (y12q rfl rfl (y12q rfl rfl (y12q rfl rfl (y12q rfl rfl (y12q rfl rfl (y12q rfl rfl (y12q rfl rfl ?_))))))))
       refine y12q rfl rfl (y18q (v := vb false) rfl rfl (y30q rfl rfl rfl rfl) ?_)
       exact y29q (y3q rfl (y0q rfl (y0q rfl (y0q rfl (y0q rfl (y0q rfl (y0q rfl (y0q rfl (y0q rfl (y0q rfl (y0q rfl (y0q rfl (y25q _))))))))))))) k
      ·intro k
       have hb105' := hb105
       try simp only [qa, qaD] at hb105'
       refine y18q rfl rfl (y1q rfl) (y18q rfl rfl (y1q rfl) (y18q rfl rfl (y48q rfl rfl (slI r0 (by first | omega | (have hbd := y58q r0; rw [wr_of (by omega) (by omega)]; omega)) (by first | omega | (have hbd := y58q r0; rw [wr_of (by omega) (by omega)]; omega)))) (y18q rfl rfl (y19q rfl rfl rfl) (y18q rfl rfl (y1q rfl) (y18q rfl rfl (y1q rfl) (y18q rfl rfl (y20q rfl rfl i_sub) (y18q rfl rfl (y48q rfl rfl (slI r0 (by first | omega | (have hbd := y58q r0; rw [wr_of (by omega) (by omega)]; omega)) (by first | omega | (have hbd := y58q r0; rw [wr_of (by omega) (by omega)]; omega)))) (y18q rfl rfl (y19q rfl rfl rfl) ?_))))))))
       refine y18q rfl rfl (y20q rfl rfl i_leq) (y18q (v := vb (decide ((ix x0 x5_) ≤ (ix x0 (wr (x5_ - 1)))))) rfl rfl (y30q rfl rfl rfl rfl) ?_)
       exact y29q (y3q rfl (y0q rfl (y0q rfl (y0q rfl (y0q rfl (y0q rfl (y0q rfl (y0q rfl (y0q rfl (y0q rfl (y0q rfl (y0q rfl (y25q _))))))))))))) k
     refine rd_op (v := vb ((decide (0 < x5_)) && (decide ((ix x0 x5_) ≤ (ix x0 (wr (x5_ - 1))))))) (y30q rfl rfl rfl rfl) ?_
     exact y29q (y3q rfl (y0q rfl (y0q rfl (y0q rfl (y0q rfl (y0q rfl (y25q _))))))) k
    ·intro k
     simp only [ac6_G3, List.cons_append, List.nil_append, List.append_assoc]
     refine y12q rfl rfl (y12q rfl rfl (y12q rfl rfl (rd_skipU rfl (rd_skipU rfl (rd_skipU rfl (rd_skipU rfl (rd_skipU rfl (rd_skipU rfl ?_))))))))
     refine rd_skipU rfl (rd_skipU rfl (rd_skipU rfl (rd_skipU rfl (y12q rfl rfl (rd_op (v := vb true) (y30q rfl rfl rfl rfl) ?_)))))
     exact y29q (y3q rfl (y0q rfl (y0q rfl (y0q rfl (y0q rfl (y0q rfl (y0q rfl (y0q rfl (y0q rfl (y0q rfl (y0q rfl (y0q rfl (y0q rfl (y0q rfl (y0q rfl (y0q rfl (y25q _))))))))))))))))) k
   refine y10q (y6q ?_)
   refine y24q rfl (fun hc106 => ?_) (fun hc106 => ?_)
   ·replace hres := (ite_t hc106).symm.trans hres
    have hc106' := hc106
    try simp only [qa, qaD] at hc106'
    refine y7q (y2q (rd_op (v := vb false) (y1q rfl) (y10q (y6q ?_))))
    subst hres
    exact y35q (.tmp rfl .nil) (y17q rfl) rfl
   ·replace hres := (ite_f hc106).symm.trans hres
    have hc106' := hc106
    try simp only [qa, qaD] at hc106'
    refine y34q (y67q (y6q (y2q (rd_op (y1q rfl) (rd_op (y20q rfl rfl i_add) (rd_op (y1q rfl) (y10q (y56q ?_))))))))
    have hbd := y58q r0
    have hinc : wr (x5_ + 1) = x5_ + 1 := wr_of (by omega) (by omega)
    rw [hinc]
    refine y37q ?_ (ih (x5_ + 1)  (by omega) (by omega) hres)
    exact ((y3q rfl (y3q rfl (y3q rfl (y31q _)))))
  ·exfalso
   try simp only [qa, qaD] at hc102
   omega

theorem f6_ok {x0 : List Int} {x1 : Int} {v0 : PV} (r0 : (tSl tI).R x0 v0) : FnR Try.prog 6 [v0, vi x1] (vb (law31_sorted x0 x1)) := by
 obtain ⟨res, hres⟩ : ∃ res, law31_sorted x0 x1 = res := ⟨_, rfl⟩
 suffices H : RC Try.prog ac6 [] (QR Try.prog [(4, none)] (RF6 res)) (argE 0 [v0, vi x1]) ⟨0, []⟩ by
  obtain ⟨r, h1, h2⟩ := fnE text6 (by simp) H
  rw [hres]
  have h2 : r = vb res := h2
  rw [← h2]; exact h1
 unfold law31_sorted at hres
 unfold ac6
 refine y7q (y2q (rd_op (v := vb false) (y1q rfl) (y10q (y6q (y7q (y7q (y2q (rd_op (v := vi 0) (y1q rfl) ?_))))))))
 refine y10q (y6q (y42q ?_))
 refine y37q ?_ (law31_sorted_L1_ok (x0 := x0) (x1 := x1) (v0 := v0)  (r0 := r0) ?_ (Int.toNat ((x0.length : Int) - 0)) 0 rfl (by omega) hres)
 ·exact ((y3q rfl (y3q rfl (y3q rfl (y31q _)))))
 ·intro  hres
  refine px_blk (y6q (y7q (y2q (rd_op (v := vb true) (y1q rfl) (y10q (y6q ?_))))))
  subst hres
  exact y35q (.tmp rfl .nil) (y17q rfl) rfl

/-- patchbay/action.Writes -/
def RF27 (res : (List y4q) × (List Int) × (List Int)) (r : PV) : Prop := ∃ c0, ∃ c1, ∃ c2, r = .tup [c0, c1, c2] ∧ (tSl y4q.t).R res.1 c0 ∧ (tSl tI).R res.2.1 c1 ∧ (tSl tI).R res.2.2 c2
theorem action_Writes_L2_ok {S : List Fr} {res : (List y4q) × (List Int) × (List Int)} {x0 : y5q} {x1 : Int} {y103 : (List y13q)} {x15_ : Int} {zE110 : List Int} {zE108 : List Int} {zE106 : List y4q} {x21_118 : Bool} {x31_125 : Bool} {v0 : PV} {v104 : PV} {esE110 : List PV} {aE110 : PV} {esE108 : List PV} {aE108 : PV} {esE106 : List PV} {aE106 : PV} {v113 : PV} {nw128 : List PV} {a128 : PV} {v132 : PV} {i101 : Nat} {w101 : Nat} {i114 : Nat} {w114 : Nat} (hs : SmH x0) (hw103 : action_body x0 x1 = y103) (ek103 : BO x0 y103) (el103 : y103.length ≤ 12) (nE110 : isL aE110 = true) (wrE110 : Wri aE110 esE110) (hlE110 : zE110.length ≤ 4611686018427387904) (nE108 : isL aE108 = true) (wrE108 : Wri aE108 esE108) (hlE108 : zE108.length ≤ 4611686018427387904) (nE106 : isL aE106 = true) (wrE106 : Wri aE106 esE106) (hlE106 : zE106.length ≤ 4611686018427387904) (hlo1 : 0 ≤ x15_) (iv1_0 : (zE106.length : Int) ≤ 1001 * x15_) (iv1_1 : (zE108.length : Int) ≤ 1001 * x15_) (iv1_2 : (zE110.length : Int) ≤ 1001 * x15_) (iv1_3 : x15_ ≤ (y103.length : Int)) (hc112 : (decide (x15_ < (y103.length : Int))) = true) (r113 : y13q.t.R (ix y103 x15_) v113) (jq118 : x21_118 = (if (decide (((ix y103 x15_).Kind) = 1)) = true then (decide (((ix y103 x15_).Kind) = 1)) else (decide (((ix y103 x15_).Kind) = 4)))) (hc119 : x21_118 = false) (jq125 : x31_125 = (if (decide (((ix y103 x15_).Kind) = 2)) = true then (decide (((ix y103 x15_).Kind) = 2)) else (decide (((ix y103 x15_).Kind) = 3)))) (hc126 : x31_125 = true) (ar128 : All2 tI.R ([(ix y103 x15_).Header] : List Int) nw128) (wr128 : Wri a128 (esE108 ++ nw128)) (hl128 : (zE108 ++ ([(ix y103 x15_).Header] : List Int)).length ≤ 4611686018427387904) (n128 : isL a128 = true) (r132 : (tSl y14q.t).R ((ix x0.Headers ((ix y103 x15_).Header)).Fields) v132) {K3 : (List Int) → (List Int) → (List y4q) → ((List y4q) × (List Int) × (List Int))}
  (hK3 : ∀ (zE110n2 : List Int) (zE108n2 : List Int) (zE106n2 : List y4q) (esE110n2 : List PV) (aE110n2 : PV) (esE108n2 : List PV) (aE108n2 : PV) (esE106n2 : List PV) (aE106n2 : PV) (qE110n2 : All2 tI.R zE110n2 esE110n2) (nE110n2 : isL aE110n2 = true) (wrE110n2 : Wri aE110n2 esE110n2) (hlE110n2 : zE110n2.length ≤ 4611686018427387904) (qE108n2 : All2 tI.R zE108n2 esE108n2) (nE108n2 : isL aE108n2 = true) (wrE108n2 : Wri aE108n2 esE108n2) (hlE108n2 : zE108n2.length ≤ 4611686018427387904) (qE106n2 : All2 y4q.t.R zE106n2 esE106n2) (nE106n2 : isL aE106n2 = true) (wrE106n2 : Wri aE106n2 esE106n2) (hlE106n2 : zE106n2.length ≤ 4611686018427387904) (po0 : (zE106n2.length : Int) ≤ 1001 * (x15_ + 1) ∧ (zE108n2.length : Int) ≤ 1001 * (x15_ + 1) ∧ (zE110n2.length : Int) ≤ 1001 * (x15_ + 1)) (h : Heap) (M0 : Mem h [⟨.op i114 w114 0, 87, 7, [v113]⟩, ⟨aE110n2, 3, 1, esE110n2⟩, ⟨aE108n2, 3, 1, esE108n2⟩, ⟨aE106n2, 58, 2, esE106n2⟩, ⟨.op i101 w101 0, 100, 3, [.agg [aE106n2, aE108n2, aE110n2]]⟩]), K3 zE110n2 zE108n2 zE106n2 = res → PX Try.prog 3 S (QR Try.prog [(4, none), (5, none), (6, none)] (RF27 res)) [(2, .fp v0), (7, .op i101 w101 0), (13, v104), (14, vi (y103.length : Int)), (15, vi x15_)] h) :
  ∀ (m : Nat) (x49_ : Int) (zE110n2 : List Int) (zE108n2 : List Int) (zE106n2 : List y4q) (esE110n2 : List PV) (aE110n2 : PV) (esE108n2 : List PV) (aE108n2 : PV) (esE106n2 : List PV) (aE106n2 : PV) (qE110n2 : All2 tI.R zE110n2 esE110n2) (nE110n2 : isL aE110n2 = true) (wrE110n2 : Wri aE110n2 esE110n2) (hlE110n2 : zE110n2.length ≤ 4611686018427387904) (qE108n2 : All2 tI.R zE108n2 esE108n2) (nE108n2 : isL aE108n2 = true) (wrE108n2 : Wri aE108n2 esE108n2) (hlE108n2 : zE108n2.length ≤ 4611686018427387904) (qE106n2 : All2 y4q.t.R zE106n2 esE106n2) (nE106n2 : isL aE106n2 = true) (wrE106n2 : Wri aE106n2 esE106n2) (hlE106n2 : zE106n2.length ≤ 4611686018427387904) (hm2 : m = Int.toNat ((((ix x0.Headers ((ix y103 x15_).Header)).Fields).length : Int) - x49_)) (hlo2 : 0 ≤ x49_) (iv2_0 : (zE106n2.length : Int) ≤ 1001 * x15_ + x49_) (iv2_1 : (zE108n2.length : Int) ≤ 1001 * x15_ + 1) (iv2_2 : (zE110n2.length : Int) ≤ 1001 * x15_) (iv2_3 : x49_ ≤ 1000) (h : Heap) (M0 : Mem h [⟨.op i114 w114 0, 87, 7, [v113]⟩, ⟨aE110n2, 3, 1, esE110n2⟩, ⟨aE108n2, 3, 1, esE108n2⟩, ⟨aE106n2, 58, 2, esE106n2⟩, ⟨.op i101 w101 0, 100, 3, [.agg [aE106n2, aE108n2, aE110n2]]⟩]), action_Writes_L2 y103 x15_ K3 m x49_ zE110n2 zE108n2 zE106n2 = res → RC Try.prog (.loop ac27_L2) S (QR Try.prog [(4, none), (5, none), (6, none)] (RF27 res)) [(49, vi x49_), (48, vi (((ix x0.Headers ((ix y103 x15_).Header)).Fields).length : Int)), (15, vi x15_), (14, vi (y103.length : Int)), (13, v104), (9, .op i114 w114 0), (7, .op i101 w101 0), (2, .fp v0)] h := by
 have hc112' := hc112
 try simp only [qa, qaD] at hc112'
 have hc119' := hc119
 try simp only [qa, qaD] at hc119'
 have hc126' := hc126
 try simp only [qa, qaD] at hc126'
 intro m
 induction m with
 | zero =>
  intro x49_ zE110n2 zE108n2 zE106n2 esE110n2 aE110n2 esE108n2 aE108n2 esE106n2 aE106n2 qE110n2 nE110n2 wrE110n2 hlE110n2 qE108n2 nE108n2 wrE108n2 hlE108n2 qE106n2 nE106n2 wrE106n2 hlE106n2 hm2 hlo2 iv2_0 iv2_1 iv2_2 iv2_3 h M0 hres
  rw [action_Writes_L2] at hres
  refine y53q ?_
  unfold ac27_L2
  refine y7q (y2q (rd_op (y20q rfl rfl i_lss) (y10q (y6q (y7q ?_)))))
  refine y24q rfl (fun hc133 => ?_) (fun hc133 => ?_)
  ·exfalso
   try simp only [qa, qaD] at hc133
   omega
  ·have hend := hres
   have hc133' := hc133
   try simp only [qa, qaD] at hc133'
   refine y93q (px_seq (y78q ?_))
   exact y96q ((y3q rfl (y3q rfl (y3q rfl (y3q rfl (y3q rfl (y31q _))))))) (hK3 zE110n2 zE108n2 zE106n2 esE110n2 aE110n2 esE108n2 aE108n2 esE106n2 aE106n2 qE110n2 nE110n2 wrE110n2 hlE110n2 qE108n2 nE108n2 wrE108n2 hlE108n2 qE106n2 nE106n2 wrE106n2 hlE106n2 (by omega) _ (Mem.sub M0 (.cons_cons _ (.cons_cons _ (.cons_cons _ (.cons_cons _ (.cons_cons _ .slnil)))))) hres)
 | succ m ih =>
  intro x49_ zE110n2 zE108n2 zE106n2 esE110n2 aE110n2 esE108n2 aE108n2 esE106n2 aE106n2 qE110n2 nE110n2 wrE110n2 hlE110n2 qE108n2 nE108n2 wrE108n2 hlE108n2 qE106n2 nE106n2 wrE106n2 hlE106n2 hm2 hlo2 iv2_0 iv2_1 iv2_2 iv2_3 h M0 hres
  rw [action_Writes_L2] at hres
  refine y53q ?_
  unfold ac27_L2
  refine y7q (y2q (rd_op (y20q rfl rfl i_lss) (y10q (y6q (y7q ?_)))))
  refine y24q rfl (fun hc134 => ?_) (fun hc134 => ?_)
  ·have hgo := hres
   have hc134' := hc134
   try simp only [qa, qaD] at hc134'
   refine y34q (y6q (y7q (y42q (y7q (y2q (rd_op (y1q rfl) (rd_op (y1q rfl) (y10q ?_))))))))
   refine y6q (y2q (rd_op (y33q rfl) (rd_op (y43q (k := 4) M0 rfl rfl (mk1 (y82q (k := 3) M0 rfl nE106n2).2)) (rd_op (y33q rfl) (rd_op (y43q (k := 0) M0 rfl rfl (y13q.g_Header r113)) (rd_op (y1q rfl) (rd_op (v := .agg [vi ((ix y103 x15_).Header), vi x49_]) (ov_build (cs := [vi ((ix y103 x15_).Header), vi x49_]) rfl rfl) (rd_op (v := .fs true [.agg [vi ((ix y103 x15_).Header), vi x49_]]) (ov_bslice rfl (all_cons rfl all_nil)) ?_))))))))
   have r135 : (tSl y4q.t).R ([({ Header := (ix y103 x15_).Header, Field := x49_ } : y4q)] : List y4q) (.fs true [.agg [vi ((ix y103 x15_).Header), vi x49_]]) := sl_fs ⟨rfl, trivial⟩ (by simp)
   obtain ⟨nw136, sr136, ar136⟩ := src_of (t := y4q.t) (h := h) r135
   have f136 : fits (esE106n2.length + nw136.length) 16 = true := by rw [All2.length_eq qE106n2, All2.length_eq ar136]; (try simp only [List.length_cons, List.length_nil]); exact fits_of (by first | omega | (have hj := jot (by assumption) (by assumption); have hk := bo_h (l := y103) (k := x15_) (by assumption) (by omega) (by omega) (by omega); have hk2 := hs _ hk.1 hk.2; first | omega | (simp only [List.length_append, List.length_cons, List.length_nil]; omega))) (by first | omega | (have hj := jot (by assumption) (by assumption); have hk := bo_h (l := y103) (k := x15_) (by assumption) (by omega) (by omega) (by omega); have hk2 := hs _ hk.1 hk.2; first | omega | (simp only [List.length_append, List.length_cons, List.length_nil]; omega)))
   refine rd_appW (k := 3) (es := esE106n2) (news := nw136) M0 rfl rfl rfl nE106n2 wrE106n2 sr136 f136 (fun a136 h136 n136 wr136 M136 => ?_)
   have q136 : All2 y4q.t.R (zE106n2 ++ ([({ Header := (ix y103 x15_).Header, Field := x49_ } : y4q)] : List y4q)) (esE106n2 ++ nw136) := All2.app qE106n2 ar136
   have hl136 : (zE106n2 ++ ([({ Header := (ix y103 x15_).Header, Field := x49_ } : y4q)] : List y4q)).length ≤ 4611686018427387904 := by rw [← All2.length_eq q136, List.length_append]; exact fits_len f136
   refine rd_op (y33q rfl) ?_
   refine rd_storeF (k := 4) (v := a136) M136 rfl rfl rfl (y82q (k := 3) M136 rfl n136).1 rfl (by first | decide | (simp only [List.length_cons, List.length_nil]; omega) | simp) (fun h137 M137 => ?_)
   replace M137 : Mem h137 [⟨.op i114 w114 0, 87, 7, [v113]⟩, ⟨aE110n2, 3, 1, esE110n2⟩, ⟨aE108n2, 3, 1, esE108n2⟩, ⟨a136, 58, 2, (esE106n2 ++ nw136)⟩, ⟨.op i101 w101 0, 100, 3, [.agg [a136, aE108n2, aE110n2]]⟩] := M137
   refine y10q (y67q (y6q (y2q (rd_op (y20q rfl rfl i_add) (rd_op (y1q rfl) (y10q (y56q ?_)))))))
   have hbd := y58q r132
   have hinc : wr (x49_ + 1) = x49_ + 1 := wr_of (by omega) (by omega)
   rw [hinc]
   refine y37q ?_ (ih (x49_ + 1) zE110n2 zE108n2 (zE106n2 ++ ([({ Header := (ix y103 x15_).Header, Field := x49_ } : y4q)] : List y4q)) esE110n2 aE110n2 esE108n2 aE108n2 (esE106n2 ++ nw136) a136 qE110n2 nE110n2 wrE110n2 hlE110n2 qE108n2 nE108n2 wrE108n2 hlE108n2 q136 n136 wr136 hl136 (by omega) (by omega) (by first | omega | (simp only [List.length_append, List.length_cons, List.length_nil]; omega) | (have hj := jot (by assumption) (by assumption); have hk := bo_h (l := y103) (k := x15_) (by assumption) (by omega) (by omega) (by omega); have hk2 := hs _ hk.1 hk.2; first | omega | (simp only [List.length_append, List.length_cons, List.length_nil]; omega))) (by first | omega | (simp only [List.length_append, List.length_cons, List.length_nil]; omega) | (have hj := jot (by assumption) (by assumption); have hk := bo_h (l := y103) (k := x15_) (by assumption) (by omega) (by omega) (by omega); have hk2 := hs _ hk.1 hk.2; first | omega | (simp only [List.length_append, List.length_cons, List.length_nil]; omega))) (by first | omega | (simp only [List.length_append, List.length_cons, List.length_nil]; omega) | (have hj := jot (by assumption) (by assumption); have hk := bo_h (l := y103) (k := x15_) (by assumption) (by omega) (by omega) (by omega); have hk2 := hs _ hk.1 hk.2; first | omega | (simp only [List.length_append, List.length_cons, List.length_nil]; omega))) (by first | omega | (simp only [List.length_append, List.length_cons, List.length_nil]; omega) | (have hj := jot (by assumption) (by assumption); have hk := bo_h (l := y103) (k := x15_) (by assumption) (by omega) (by omega) (by omega); have hk2 := hs _ hk.1 hk.2; first | omega | (simp only [List.length_append, List.length_cons, List.length_nil]; omega))) _ (Mem.sub M137 (.cons_cons _ (.cons_cons _ (.cons_cons _ (.cons_cons _ (.cons_cons _ .slnil)))))) hres)
   exact ((y3q rfl (y3q rfl (y3q rfl (y3q rfl (y3q rfl (y3q rfl (y3q rfl (y3q rfl (y31q _))))))))))
  ·exfalso
   try simp only [qa, qaD] at hc134
   omega

theorem action_Writes_L1_ok {S : List Fr} {res : (List y4q) × (List Int) × (List Int)} {x0 : y5q} {x1 : Int} {y103 : (List y13q)} {v0 : PV} {v104 : PV} {i101 : Nat} {w101 : Nat} (r0 : y5q.t.R x0 v0) (hs : SmH x0) (hw103 : action_body x0 x1 = y103) (r104 : (tSl y13q.t).R y103 v104) (ek103 : BO x0 y103) (el103 : y103.length ≤ 12) {K0 : (List Int) → (List Int) → (List y4q) → ((List y4q) × (List Int) × (List Int))}
  (hK0 : ∀ (zE110 : List Int) (zE108 : List Int) (zE106 : List y4q) (esE110 : List PV) (aE110 : PV) (esE108 : List PV) (aE108 : PV) (esE106 : List PV) (aE106 : PV) (qE110 : All2 tI.R zE110 esE110) (nE110 : isL aE110 = true) (wrE110 : Wri aE110 esE110) (hlE110 : zE110.length ≤ 4611686018427387904) (qE108 : All2 tI.R zE108 esE108) (nE108 : isL aE108 = true) (wrE108 : Wri aE108 esE108) (hlE108 : zE108.length ≤ 4611686018427387904) (qE106 : All2 y4q.t.R zE106 esE106) (nE106 : isL aE106 = true) (wrE106 : Wri aE106 esE106) (hlE106 : zE106.length ≤ 4611686018427387904) (po0 : zE106.length ≤ 13000 ∧ zE108.length ≤ 13000 ∧ zE110.length ≤ 13000) (h : Heap) (M0 : Mem h [⟨aE110, 3, 1, esE110⟩, ⟨aE108, 3, 1, esE108⟩, ⟨aE106, 58, 2, esE106⟩, ⟨.op i101 w101 0, 100, 3, [.agg [aE106, aE108, aE110]]⟩]), K0 zE110 zE108 zE106 = res → PX Try.prog 0 S (QR Try.prog [(4, none), (5, none), (6, none)] (RF27 res)) [(7, .op i101 w101 0)] h) :
  ∀ (m : Nat) (x15_ : Int) (zE110 : List Int) (zE108 : List Int) (zE106 : List y4q) (esE110 : List PV) (aE110 : PV) (esE108 : List PV) (aE108 : PV) (esE106 : List PV) (aE106 : PV) (qE110 : All2 tI.R zE110 esE110) (nE110 : isL aE110 = true) (wrE110 : Wri aE110 esE110) (hlE110 : zE110.length ≤ 4611686018427387904) (qE108 : All2 tI.R zE108 esE108) (nE108 : isL aE108 = true) (wrE108 : Wri aE108 esE108) (hlE108 : zE108.length ≤ 4611686018427387904) (qE106 : All2 y4q.t.R zE106 esE106) (nE106 : isL aE106 = true) (wrE106 : Wri aE106 esE106) (hlE106 : zE106.length ≤ 4611686018427387904) (hm1 : m = Int.toNat ((y103.length : Int) - x15_)) (hlo1 : 0 ≤ x15_) (iv1_0 : (zE106.length : Int) ≤ 1001 * x15_) (iv1_1 : (zE108.length : Int) ≤ 1001 * x15_) (iv1_2 : (zE110.length : Int) ≤ 1001 * x15_) (iv1_3 : x15_ ≤ (y103.length : Int)) (h : Heap) (M0 : Mem h [⟨aE110, 3, 1, esE110⟩, ⟨aE108, 3, 1, esE108⟩, ⟨aE106, 58, 2, esE106⟩, ⟨.op i101 w101 0, 100, 3, [.agg [aE106, aE108, aE110]]⟩]), y83q x0 y103 K0 m x15_ zE110 zE108 zE106 = res → RC Try.prog (.loop ac27_L1) S (QR Try.prog [(4, none), (5, none), (6, none)] (RF27 res)) [(15, vi x15_), (14, vi (y103.length : Int)), (13, v104), (7, .op i101 w101 0), (2, .fp v0)] h := by
 intro m
 induction m with
 | zero =>
  intro x15_ zE110 zE108 zE106 esE110 aE110 esE108 aE108 esE106 aE106 qE110 nE110 wrE110 hlE110 qE108 nE108 wrE108 hlE108 qE106 nE106 wrE106 hlE106 hm1 hlo1 iv1_0 iv1_1 iv1_2 iv1_3 h M0 hres
  rw [y83q] at hres
  refine y53q ?_
  unfold ac27_L1
  refine y7q (y2q (rd_op (y20q rfl rfl i_lss) (y10q (y6q (y7q ?_)))))
  refine y24q rfl (fun hc111 => ?_) (fun hc111 => ?_)
  ·exfalso
   try simp only [qa, qaD] at hc111
   omega
  ·have hend := hres
   have hc111' := hc111
   try simp only [qa, qaD] at hc111'
   refine y93q (px_seq (y78q ?_))
   exact y96q ((y3q rfl (y31q _))) (hK0 zE110 zE108 zE106 esE110 aE110 esE108 aE108 esE106 aE106 qE110 nE110 wrE110 hlE110 qE108 nE108 wrE108 hlE108 qE106 nE106 wrE106 hlE106 (by omega) _ (Mem.sub M0 (.cons_cons _ (.cons_cons _ (.cons_cons _ (.cons_cons _ .slnil))))) hres)
 | succ m ih =>
  intro x15_ zE110 zE108 zE106 esE110 aE110 esE108 aE108 esE106 aE106 qE110 nE110 wrE110 hlE110 qE108 nE108 wrE108 hlE108 qE106 nE106 wrE106 hlE106 hm1 hlo1 iv1_0 iv1_1 iv1_2 iv1_3 h M0 hres
  rw [y83q] at hres
  refine y53q ?_
  unfold ac27_L1
  refine y7q (y2q (rd_op (y20q rfl rfl i_lss) (y10q (y6q (y7q ?_)))))
  refine y24q rfl (fun hc112 => ?_) (fun hc112 => ?_)
  ·have hgo := hres
   have hc112' := hc112
   try simp only [qa, qaD] at hc112'
   refine y34q (y6q (y7q (y42q (y7q (y2q ?_)))))
   obtain ⟨v113, e113, r113⟩ := y106q (i := x15_) r104 (by first | omega | (have hj := jot (by assumption) (by assumption); have hk := bo_h (l := y103) (k := x15_) (by assumption) (by omega) (by omega) (by omega); omega)) (by first | omega | (have hj := jot (by assumption) (by assumption); have hk := bo_h (l := y103) (k := x15_) (by assumption) (by omega) (by omega) (by omega); omega))
   refine rd_op (y48q rfl rfl e113) (rd_op (y19q rfl (TR.cnt y13q.t r113) (TR.agg y13q.t r113)) ?_)
   refine y94q (x := .agg [vi 0, vi 0, vi 0, vi 0, vi 0, nilS, nilS]) M0 rfl rfl (fun i114 w114 h114 M114 => ?_)
   refine y89q (k := 0) (v := v113) M114 rfl rfl rfl (TR.cnt y13q.t r113) (fun h116 M116 => ?_)
   replace M116 : Mem h116 [⟨.op i114 w114 0, 87, 7, [v113]⟩, ⟨aE110, 3, 1, esE110⟩, ⟨aE108, 3, 1, esE108⟩, ⟨aE106, 58, 2, esE106⟩, ⟨.op i101 w101 0, 100, 3, [.agg [aE106, aE108, aE110]]⟩] := M116
   refine y10q (y6q (y7q (y2q (rd_op (y33q rfl) (rd_op (y43q (k := 0) M116 rfl rfl (y13q.g_Kind r113)) (y10q (y6q (y42q ?_))))))))
   refine y7q (y7q (y2q (rd_op (y20q rfl rfl i_eql) (rd_op (y1q rfl) (y10q (y6q ?_))))))
   obtain ⟨k118, hk118, hres⟩ := y47q hres
   refine rc_join (F := fun b S Q => ∀ (x21_118 : Bool) (jq118 : x21_118 = (if (decide (((ix y103 x15_).Kind) = 1)) = true then (decide (((ix y103 x15_).Kind) = 1)) else (decide (((ix y103 x15_).Kind) = 4)))) (hj118 : Heap) (Mj118 : Mem hj118 [⟨.op i114 w114 0, 87, 7, [v113]⟩, ⟨aE110, 3, 1, esE110⟩, ⟨aE108, 3, 1, esE108⟩, ⟨aE106, 58, 2, esE106⟩, ⟨.op i101 w101 0, 100, 3, [.agg [aE106, aE108, aE110]]⟩]), k118 x21_118 = res → RC Try.prog b S Q [(21, vb x21_118), (20, vi ((ix y103 x15_).Kind)), (15, vi x15_), (14, vi (y103.length : Int)), (13, v104), (9, .op i114 w114 0), (7, .op i101 w101 0), (2, .fp v0)] hj118) ?_ ?_
   ·intro x21_118 jq118 hj118 Mj118 hres
    rw [← hk118] at hres
    refine y24q rfl (fun hc119 => ?_) (fun hc119 => ?_)
    ·replace hres := (ite_t hc119).symm.trans hres
     have hc119' := hc119
     try simp only [qa, qaD] at hc119'
     refine y2q (rd_op (y33q rfl) (rd_op (y43q (k := 4) Mj118 rfl rfl (mk1 (y82q (k := 3) Mj118 rfl nE106).2)) (rd_op (y33q rfl) ?_)))
     obtain ⟨v120, e120, r120⟩ := y13q.g_Dst r113
     refine rd_op (y43q (k := 0) Mj118 rfl rfl e120) (rd_op (v := .fs true [v120]) (ov_bslice rfl (all_cons (TR.cnt y4q.t r120) all_nil)) ?_)
     have r121 : (tSl y4q.t).R ([(ix y103 x15_).Dst] : List y4q) (.fs true [v120]) := sl_fs ⟨r120, trivial⟩ (by simp)
     obtain ⟨nw122, sr122, ar122⟩ := src_of (t := y4q.t) (h := hj118) r121
     have f122 : fits (esE106.length + nw122.length) 16 = true := by rw [All2.length_eq qE106, All2.length_eq ar122]; (try simp only [List.length_cons, List.length_nil]); exact fits_of (by first | omega | (have hj := jot (by assumption) (by assumption); have hk := bo_h (l := y103) (k := x15_) (by assumption) (by omega) (by omega) (by omega); have hk2 := hs _ hk.1 hk.2; first | omega | (simp only [List.length_append, List.length_cons, List.length_nil]; omega))) (by first | omega | (have hj := jot (by assumption) (by assumption); have hk := bo_h (l := y103) (k := x15_) (by assumption) (by omega) (by omega) (by omega); have hk2 := hs _ hk.1 hk.2; first | omega | (simp only [List.length_append, List.length_cons, List.length_nil]; omega)))
     refine rd_appW (k := 3) (es := esE106) (news := nw122) Mj118 rfl rfl rfl nE106 wrE106 sr122 f122 (fun a122 h122 n122 wr122 M122 => ?_)
     have q122 : All2 y4q.t.R (zE106 ++ ([(ix y103 x15_).Dst] : List y4q)) (esE106 ++ nw122) := All2.app qE106 ar122
     have hl122 : (zE106 ++ ([(ix y103 x15_).Dst] : List y4q)).length ≤ 4611686018427387904 := by rw [← All2.length_eq q122, List.length_append]; exact fits_len f122
     refine rd_op (y33q rfl) ?_
     refine rd_storeF (k := 4) (v := a122) M122 rfl rfl rfl (y82q (k := 3) M122 rfl n122).1 rfl (by first | decide | (simp only [List.length_cons, List.length_nil]; omega) | simp) (fun h123 M123 => ?_)
     replace M123 : Mem h123 [⟨.op i114 w114 0, 87, 7, [v113]⟩, ⟨aE110, 3, 1, esE110⟩, ⟨aE108, 3, 1, esE108⟩, ⟨a122, 58, 2, (esE106 ++ nw122)⟩, ⟨.op i101 w101 0, 100, 3, [.agg [a122, aE108, aE110]]⟩] := M123
     refine y10q (y67q (y67q (y6q (y2q (rd_op (y20q rfl rfl i_add) (rd_op (y1q rfl) (y10q (y56q ?_))))))))
     have hbd := y58q r104
     have hinc : wr (x15_ + 1) = x15_ + 1 := wr_of (by omega) (by omega)
     rw [hinc]
     refine y37q ?_ (ih (x15_ + 1) zE110 zE108 (zE106 ++ ([(ix y103 x15_).Dst] : List y4q)) esE110 aE110 esE108 aE108 (esE106 ++ nw122) a122 qE110 nE110 wrE110 hlE110 qE108 nE108 wrE108 hlE108 q122 n122 wr122 hl122 (by omega) (by omega) (by first | omega | (simp only [List.length_append, List.length_cons, List.length_nil]; omega)) (by first | omega | (simp only [List.length_append, List.length_cons, List.length_nil]; omega)) (by first | omega | (simp only [List.length_append, List.length_cons, List.length_nil]; omega)) (by first | omega | (simp only [List.length_append, List.length_cons, List.length_nil]; omega)) _ (Mem.sub M123 (.cons _ (.cons_cons _ (.cons_cons _ (.cons_cons _ (.cons_cons _ .slnil)))))) hres)
     exact ((y3q rfl (y3q rfl (y3q rfl (y3q rfl (y3q rfl (y31q _)))))))
    ·replace hres := (ite_f hc119).symm.trans hres
     have hc119' := hc119
     try simp only [qa, qaD] at hc119'
     refine y7q (y7q (y2q (rd_op (y20q rfl rfl i_eql) (rd_op (y1q rfl) (y10q (y6q ?_))))))
     obtain ⟨k125, hk125, hres⟩ := y47q hres
     refine rc_join (F := fun b S Q => ∀ (x31_125 : Bool) (jq125 : x31_125 = (if (decide (((ix y103 x15_).Kind) = 2)) = true then (decide (((ix y103 x15_).Kind) = 2)) else (decide (((ix y103 x15_).Kind) = 3)))) (hj125 : Heap) (Mj125 : Mem hj125 [⟨.op i114 w114 0, 87, 7, [v113]⟩, ⟨aE110, 3, 1, esE110⟩, ⟨aE108, 3, 1, esE108⟩, ⟨aE106, 58, 2, esE106⟩, ⟨.op i101 w101 0, 100, 3, [.agg [aE106, aE108, aE110]]⟩]), k125 x31_125 = res → RC Try.prog b S Q [(31, vb x31_125), (20, vi ((ix y103 x15_).Kind)), (15, vi x15_), (14, vi (y103.length : Int)), (13, v104), (9, .op i114 w114 0), (7, .op i101 w101 0), (2, .fp v0)] hj125) ?_ ?_
     ·intro x31_125 jq125 hj125 Mj125 hres
      rw [← hk125] at hres
      refine y24q rfl (fun hc126 => ?_) (fun hc126 => ?_)
      ·replace hres := (ite_t hc126).symm.trans hres
       have hc126' := hc126
       try simp only [qa, qaD] at hc126'
       refine y7q (y2q (rd_op (y33q rfl) (rd_op (y43q (k := 4) Mj125 rfl rfl (mk1 (y82q (k := 2) Mj125 rfl nE108).2)) (rd_op (y33q rfl) (rd_op (y43q (k := 0) Mj125 rfl rfl (y13q.g_Header r113)) (rd_op (v := .fs true [vi ((ix y103 x15_).Header)]) (ov_bslice rfl (all_cons rfl all_nil)) ?_))))))
       have r127 : (tSl tI).R ([(ix y103 x15_).Header] : List Int) (.fs true [vi ((ix y103 x15_).Header)]) := sl_fs ⟨rfl, trivial⟩ (by simp)
       obtain ⟨nw128, sr128, ar128⟩ := src_of (t := tI) (h := hj125) r127
       have f128 : fits (esE108.length + nw128.length) 8 = true := by rw [All2.length_eq qE108, All2.length_eq ar128]; (try simp only [List.length_cons, List.length_nil]); exact fits_of (by first | omega | (have hj := jot (by assumption) (by assumption); have hk := bo_h (l := y103) (k := x15_) (by assumption) (by omega) (by omega) (by omega); have hk2 := hs _ hk.1 hk.2; first | omega | (simp only [List.length_append, List.length_cons, List.length_nil]; omega))) (by first | omega | (have hj := jot (by assumption) (by assumption); have hk := bo_h (l := y103) (k := x15_) (by assumption) (by omega) (by omega) (by omega); have hk2 := hs _ hk.1 hk.2; first | omega | (simp only [List.length_append, List.length_cons, List.length_nil]; omega)))
       refine rd_appW (k := 2) (es := esE108) (news := nw128) Mj125 rfl rfl rfl nE108 wrE108 sr128 f128 (fun a128 h128 n128 wr128 M128 => ?_)
       have q128 : All2 tI.R (zE108 ++ ([(ix y103 x15_).Header] : List Int)) (esE108 ++ nw128) := All2.app qE108 ar128
       have hl128 : (zE108 ++ ([(ix y103 x15_).Header] : List Int)).length ≤ 4611686018427387904 := by rw [← All2.length_eq q128, List.length_append]; exact fits_len f128
       refine rd_op (y33q rfl) ?_
       refine rd_storeF (k := 4) (v := a128) M128 rfl rfl rfl (y82q (k := 2) M128 rfl n128).1 rfl (by first | decide | (simp only [List.length_cons, List.length_nil]; omega) | simp) (fun h129 M129 => ?_)
       replace M129 : Mem h129 [⟨.op i114 w114 0, 87, 7, [v113]⟩, ⟨aE110, 3, 1, esE110⟩, ⟨a128, 3, 1, (esE108 ++ nw128)⟩, ⟨aE106, 58, 2, esE106⟩, ⟨.op i101 w101 0, 100, 3, [.agg [aE106, a128, aE110]]⟩] := M129
       refine y10q (y6q (y7q (y2q ?_)))
       obtain ⟨v130, e130, r130⟩ := y5q.g_Headers r0
       refine rd_op (y22q rfl e130) (rd_op (y19q rfl (TR.cnt (tSl y21q.t) r130) (TR.agg (tSl y21q.t) r130)) (rd_op (y33q rfl) (rd_op (y43q (k := 0) M129 rfl rfl (y13q.g_Header r113)) ?_)))
       obtain ⟨v131, e131, r131⟩ := y106q (i := (ix y103 x15_).Header) r130 (by first | omega | (have hj := jot (by assumption) (by assumption); have hk := bo_h (l := y103) (k := x15_) (by assumption) (by omega) (by omega) (by omega); omega)) (by first | omega | (have hj := jot (by assumption) (by assumption); have hk := bo_h (l := y103) (k := x15_) (by assumption) (by omega) (by omega) (by omega); omega))
       refine rd_op (y48q rfl rfl e131) ?_
       obtain ⟨v132, e132, r132⟩ := y21q.g_Fields r131
       refine rd_op (y22q rfl e132) (rd_op (y19q rfl (TR.cnt (tSl y14q.t) r132) (TR.agg (tSl y14q.t) r132)) (rd_op (ov_bi rfl (y62q r132 Try.underlying23 _)) (rd_op (v := vi 0) (y1q rfl) (y10q (y6q (y42q ?_))))))
       refine y37q ?_ (action_Writes_L2_ok (x0 := x0) (x1 := x1) (y103 := y103) (x15_ := x15_) (zE110 := zE110) (zE108 := zE108) (zE106 := zE106) (x21_118 := x21_118) (x31_125 := x31_125) (v0 := v0) (v104 := v104) (esE110 := esE110) (aE110 := aE110) (esE108 := esE108) (aE108 := aE108) (esE106 := esE106) (aE106 := aE106) (v113 := v113) (nw128 := nw128) (a128 := a128) (v132 := v132) (i101 := i101) (w101 := w101) (i114 := i114) (w114 := w114) (hs := hs) (hw103 := hw103) (ek103 := ek103) (el103 := el103) (nE110 := nE110) (wrE110 := wrE110) (hlE110 := hlE110) (nE108 := nE108) (wrE108 := wrE108) (hlE108 := hlE108) (nE106 := nE106) (wrE106 := wrE106) (hlE106 := hlE106) (hlo1 := hlo1) (iv1_0 := iv1_0) (iv1_1 := iv1_1) (iv1_2 := iv1_2) (iv1_3 := iv1_3) (hc112 := hc112) (r113 := r113) (jq118 := jq118) (hc119 := hc119) (jq125 := jq125) (hc126 := hc126) (ar128 := ar128) (wr128 := wr128) (hl128 := hl128) (n128 := n128) (r132 := r132) ?_ (Int.toNat ((((ix x0.Headers ((ix y103 x15_).Header)).Fields).length : Int) - 0)) 0 zE110 (zE108 ++ ([(ix y103 x15_).Header] : List Int)) zE106 esE110 aE110 (esE108 ++ nw128) a128 esE106 aE106 qE110 nE110 wrE110 hlE110 q128 n128 wr128 hl128 qE106 nE106 wrE106 hlE106 rfl (by omega) (by first | omega | ((try dsimp only); (try simp only [List.length_append, List.length_cons, List.length_nil]); omega) | simp) (by first | omega | ((try dsimp only); (try simp only [List.length_append, List.length_cons, List.length_nil]); omega) | simp) (by first | omega | ((try dsimp only); (try simp only [List.length_append, List.length_cons, List.length_nil]); omega) | simp) (by first | omega | ((try dsimp only); (try simp only [List.length_append, List.length_cons, List.length_nil]); omega) | simp) _ (Mem.sub M129 (.cons_cons _ (.cons_cons _ (.cons_cons _ (.cons_cons _ (.cons_cons _ .slnil)))))) hres)
       ·exact ((y3q rfl (y3q rfl (y3q rfl (y3q rfl (y3q rfl (y3q rfl (y3q rfl (y3q rfl (y31q _))))))))))
       ·intro zE110n2_138 zE108n2_138 zE106n2_138 es138E110 a138E110 es138E108 a138E108 es138E106 a138E106 q138E110 n138E110 wr138E110 hl138E110 q138E108 n138E108 wr138E108 hl138E108 q138E106 n138E106 wr138E106 hl138E106 po138_0 h138 M138 hres
        refine px_blk (y67q (y67q (y6q (y2q (rd_op (y20q rfl rfl i_add) (rd_op (y1q rfl) (y10q (y56q ?_))))))))
        have hbd := y58q r104
        have hinc : wr (x15_ + 1) = x15_ + 1 := wr_of (by omega) (by omega)
        rw [hinc]
        refine y37q ?_ (ih (x15_ + 1) zE110n2_138 zE108n2_138 zE106n2_138 es138E110 a138E110 es138E108 a138E108 es138E106 a138E106 q138E110 n138E110 wr138E110 hl138E110 q138E108 n138E108 wr138E108 hl138E108 q138E106 n138E106 wr138E106 hl138E106 (by omega) (by omega) (by first | omega | (simp only [List.length_append, List.length_cons, List.length_nil]; omega)) (by first | omega | (simp only [List.length_append, List.length_cons, List.length_nil]; omega)) (by first | omega | (simp only [List.length_append, List.length_cons, List.length_nil]; omega)) (by first | omega | (simp only [List.length_append, List.length_cons, List.length_nil]; omega)) _ (Mem.sub M138 (.cons _ (.cons_cons _ (.cons_cons _ (.cons_cons _ (.cons_cons _ .slnil)))))) hres)
        exact ((y3q rfl (y3q rfl (y3q rfl (y3q rfl (y3q rfl (y31q _)))))))
      ·replace hres := (ite_f hc126).symm.trans hres
       have hc126' := hc126
       try simp only [qa, qaD] at hc126'
       refine y7q (y2q (rd_op (y20q rfl rfl i_eql) (rd_op (y1q rfl) (y10q (y6q ?_)))))
       refine y24q rfl (fun hc139 => ?_) (fun hc139 => ?_)
       ·replace hres := (ite_t hc139).symm.trans hres
        have hc139' := hc139
        try simp only [qa, qaD] at hc139'
        refine y2q (rd_op (y33q rfl) (rd_op (y43q (k := 4) Mj125 rfl rfl (mk1 (y82q (k := 1) Mj125 rfl nE110).2)) (rd_op (y33q rfl) (rd_op (y43q (k := 0) Mj125 rfl rfl (y13q.g_Register r113)) (rd_op (v := .fs true [vi ((ix y103 x15_).Register)]) (ov_bslice rfl (all_cons rfl all_nil)) ?_)))))
        have r140 : (tSl tI).R ([(ix y103 x15_).Register] : List Int) (.fs true [vi ((ix y103 x15_).Register)]) := sl_fs ⟨rfl, trivial⟩ (by simp)
        obtain ⟨nw141, sr141, ar141⟩ := src_of (t := tI) (h := hj125) r140
        have f141 : fits (esE110.length + nw141.length) 8 = true := by rw [All2.length_eq qE110, All2.length_eq ar141]; (try simp only [List.length_cons, List.length_nil]); exact fits_of (by first | omega | (have hj := jot (by assumption) (by assumption); have hk := bo_h (l := y103) (k := x15_) (by assumption) (by omega) (by omega) (by omega); have hk2 := hs _ hk.1 hk.2; first | omega | (simp only [List.length_append, List.length_cons, List.length_nil]; omega))) (by first | omega | (have hj := jot (by assumption) (by assumption); have hk := bo_h (l := y103) (k := x15_) (by assumption) (by omega) (by omega) (by omega); have hk2 := hs _ hk.1 hk.2; first | omega | (simp only [List.length_append, List.length_cons, List.length_nil]; omega)))
        refine rd_appW (k := 1) (es := esE110) (news := nw141) Mj125 rfl rfl rfl nE110 wrE110 sr141 f141 (fun a141 h141 n141 wr141 M141 => ?_)
        have q141 : All2 tI.R (zE110 ++ ([(ix y103 x15_).Register] : List Int)) (esE110 ++ nw141) := All2.app qE110 ar141
        have hl141 : (zE110 ++ ([(ix y103 x15_).Register] : List Int)).length ≤ 4611686018427387904 := by rw [← All2.length_eq q141, List.length_append]; exact fits_len f141
        refine rd_op (y33q rfl) ?_
        refine rd_storeF (k := 4) (v := a141) M141 rfl rfl rfl (y82q (k := 1) M141 rfl n141).1 rfl (by first | decide | (simp only [List.length_cons, List.length_nil]; omega) | simp) (fun h142 M142 => ?_)
        replace M142 : Mem h142 [⟨.op i114 w114 0, 87, 7, [v113]⟩, ⟨a141, 3, 1, (esE110 ++ nw141)⟩, ⟨aE108, 3, 1, esE108⟩, ⟨aE106, 58, 2, esE106⟩, ⟨.op i101 w101 0, 100, 3, [.agg [aE106, aE108, a141]]⟩] := M142
        refine y10q (y67q (y67q (y6q (y2q (rd_op (y20q rfl rfl i_add) (rd_op (y1q rfl) (y10q (y56q ?_))))))))
        have hbd := y58q r104
        have hinc : wr (x15_ + 1) = x15_ + 1 := wr_of (by omega) (by omega)
        rw [hinc]
        refine y37q ?_ (ih (x15_ + 1) (zE110 ++ ([(ix y103 x15_).Register] : List Int)) zE108 zE106 (esE110 ++ nw141) a141 esE108 aE108 esE106 aE106 q141 n141 wr141 hl141 qE108 nE108 wrE108 hlE108 qE106 nE106 wrE106 hlE106 (by omega) (by omega) (by first | omega | (simp only [List.length_append, List.length_cons, List.length_nil]; omega)) (by first | omega | (simp only [List.length_append, List.length_cons, List.length_nil]; omega)) (by first | omega | (simp only [List.length_append, List.length_cons, List.length_nil]; omega)) (by first | omega | (simp only [List.length_append, List.length_cons, List.length_nil]; omega)) _ (Mem.sub M142 (.cons _ (.cons_cons _ (.cons_cons _ (.cons_cons _ (.cons_cons _ .slnil)))))) hres)
        exact ((y3q rfl (y3q rfl (y3q rfl (y3q rfl (y3q rfl (y31q _)))))))
       ·replace hres := (ite_f hc139).symm.trans hres
        have hc139' := hc139
        try simp only [qa, qaD] at hc139'
        refine y34q (y67q (y67q (y6q (y2q (rd_op (y20q rfl rfl i_add) (rd_op (y1q rfl) (y10q (y56q ?_))))))))
        have hbd := y58q r104
        have hinc : wr (x15_ + 1) = x15_ + 1 := wr_of (by omega) (by omega)
        rw [hinc]
        refine y37q ?_ (ih (x15_ + 1) zE110 zE108 zE106 esE110 aE110 esE108 aE108 esE106 aE106 qE110 nE110 wrE110 hlE110 qE108 nE108 wrE108 hlE108 qE106 nE106 wrE106 hlE106 (by omega) (by omega) (by first | omega | (simp only [List.length_append, List.length_cons, List.length_nil]; omega)) (by first | omega | (simp only [List.length_append, List.length_cons, List.length_nil]; omega)) (by first | omega | (simp only [List.length_append, List.length_cons, List.length_nil]; omega)) (by first | omega | (simp only [List.length_append, List.length_cons, List.length_nil]; omega)) _ (Mem.sub Mj125 (.cons _ (.cons_cons _ (.cons_cons _ (.cons_cons _ (.cons_cons _ .slnil)))))) hres)
        exact ((y3q rfl (y3q rfl (y3q rfl (y3q rfl (y3q rfl (y31q _)))))))
     ·intro J
      refine y24q rfl (fun hc143 => ?_) (fun hc143 => ?_)
      ·replace hres := (ite_t hc143).symm.trans hres
       have hc143' := hc143
       try simp only [qa, qaD] at hc143'
       refine y34q ?_
       refine y6q (y37q ((y3q rfl (y3q rfl (y3q rfl (y3q rfl (y3q rfl (y3q rfl (y3q rfl (y3q rfl (y31q _)))))))))) (J _ (ite_t hc143).symm _ (Mem.sub Mj118 (.cons_cons _ (.cons_cons _ (.cons_cons _ (.cons_cons _ (.cons_cons _ .slnil)))))) hres))
      ·replace hres := (ite_f hc143).symm.trans hres
       have hc143' := hc143
       try simp only [qa, qaD] at hc143'
       refine y2q (rd_op (y20q rfl rfl i_eql) (rd_op (y1q rfl) (y10q ?_)))
       refine y6q (y37q ((y3q rfl (y3q rfl (y3q rfl (y3q rfl (y3q rfl (y3q rfl (y3q rfl (y3q rfl (y31q _)))))))))) (J _ (ite_f hc143).symm _ (Mem.sub Mj118 (.cons_cons _ (.cons_cons _ (.cons_cons _ (.cons_cons _ (.cons_cons _ .slnil)))))) hres))
   ·intro J
    refine y24q rfl (fun hc144 => ?_) (fun hc144 => ?_)
    ·replace hres := (ite_t hc144).symm.trans hres
     have hc144' := hc144
     try simp only [qa, qaD] at hc144'
     refine y34q ?_
     refine y6q (y37q ((y3q rfl (y3q rfl (y3q rfl (y3q rfl (y3q rfl (y3q rfl (y3q rfl (y3q rfl (y31q _)))))))))) (J _ (ite_t hc144).symm _ (Mem.sub M116 (.cons_cons _ (.cons_cons _ (.cons_cons _ (.cons_cons _ (.cons_cons _ .slnil)))))) hres))
    ·replace hres := (ite_f hc144).symm.trans hres
     have hc144' := hc144
     try simp only [qa, qaD] at hc144'
     refine y2q (rd_op (y20q rfl rfl i_eql) (rd_op (y1q rfl) (y10q ?_)))
     refine y6q (y37q ((y3q rfl (y3q rfl (y3q rfl (y3q rfl (y3q rfl (y3q rfl (y3q rfl (y3q rfl (y31q _)))))))))) (J _ (ite_f hc144).symm _ (Mem.sub M116 (.cons_cons _ (.cons_cons _ (.cons_cons _ (.cons_cons _ (.cons_cons _ .slnil)))))) hres))
  ·exfalso
   try simp only [qa, qaD] at hc112
   omega

theorem f27_ok {x0 : y5q} {x1 : Int} {v0 : PV} (r0 : y5q.t.R x0 v0) (hs : SmH x0) : ∃ c0, ∃ c1, ∃ c2, FnR Try.prog 27 [v0, vi x1] (.tup [c0, c1, c2]) ∧ (tSl y4q.t).R (action_Writes x0 x1).1 c0 ∧ (tSl tI).R (action_Writes x0 x1).2.1 c1 ∧ (tSl tI).R (action_Writes x0 x1).2.2 c2 := by
 obtain ⟨res, hres⟩ : ∃ res, action_Writes x0 x1 = res := ⟨_, rfl⟩
 suffices H : RC Try.prog ac27 [] (QR Try.prog [(4, none), (5, none), (6, none)] (RF27 res)) (argE 0 [v0, vi x1]) ⟨0, []⟩ by
  rw [hres]
  obtain ⟨r, h1, c0, c1, c2, rfl, qc0, qc1, qc2⟩ := fnE text27 (by simp) H
  exact ⟨c0, c1, c2, h1, qc0, qc1, qc2⟩
 unfold action_Writes at hres
 unfold ac27
 refine y7q (y2q (rd_op (y102q rfl (TR.cnt y5q.t r0)) (rd_op (v := nilS) (y1q rfl) (rd_op (v := nilS) (y1q rfl) (rd_op (v := nilS) (y1q rfl) (y10q (y6q (y7q ?_))))))))
 refine y2q ?_
 refine y94q (x := .agg [nilS, nilS, nilS]) (Mem.nil ⟨0, []⟩) rfl rfl (fun i101 w101 h101 M101 => ?_)
 refine y10q (y6q (y7q (y7q (y2q (rd_op (y19q rfl (TR.cnt y5q.t r0) (TR.agg y5q.t r0)) (rd_op (y1q rfl) ?_))))))
 obtain ⟨y103, hw103, hres⟩ := y47q hres
 obtain ⟨v104, f103, r104⟩ := f39_ok (x1 := x1) r0 
 rw [hw103] at r104
 have ek103 : BO x0 y103 := body_ok hw103
 have el103 : y103.length ≤ 12 := (body_ok hw103).1
 refine y52q (cv_fn rfl rfl (y15q (TR.clo y5q.t r0) (y15q rfl y36q)) f103) (rd_op (ov_bi rfl (y62q r104 Try.underlying47 _)) (rd_op (v := vi 0) (y1q rfl) (y10q (y6q (y42q ?_)))))
 have M105 := mem_acc (sz := 2) (es := []) M101 58 (.inl ⟨none, rfl, rfl⟩) (by simp)
 have M107 := mem_acc (sz := 1) (es := []) M105 3 (.inl ⟨none, rfl, rfl⟩) (by simp)
 have M109 := mem_acc (sz := 1) (es := []) M107 3 (.inl ⟨none, rfl, rfl⟩) (by simp)
 refine y37q ?_ (action_Writes_L1_ok (x0 := x0) (x1 := x1) (y103 := y103) (v0 := v0) (v104 := v104) (i101 := i101) (w101 := w101) (r0 := r0) (hs := hs) (hw103 := hw103) (r104 := r104) (ek103 := ek103) (el103 := el103) ?_ (Int.toNat ((y103.length : Int) - 0)) 0 ([] : List Int) ([] : List Int) ([] : List y4q) ([] : List PV) nilS ([] : List PV) nilS ([] : List PV) nilS (show All2 tI.R ([] : List Int) [] from trivial) rfl (.inl rfl) (by first | decide | simp) (show All2 tI.R ([] : List Int) [] from trivial) rfl (.inl rfl) (by first | decide | simp) (show All2 y4q.t.R ([] : List y4q) [] from trivial) rfl (.inl rfl) (by first | decide | simp) rfl (by omega) (by first | omega | ((try dsimp only); (try simp only [List.length_append, List.length_cons, List.length_nil]); omega) | simp) (by first | omega | ((try dsimp only); (try simp only [List.length_append, List.length_cons, List.length_nil]); omega) | simp) (by first | omega | ((try dsimp only); (try simp only [List.length_append, List.length_cons, List.length_nil]); omega) | simp) (by first | omega | ((try dsimp only); (try simp only [List.length_append, List.length_cons, List.length_nil]); omega) | simp) _ (Mem.sub M109 (.cons_cons _ (.cons_cons _ (.cons_cons _ (.cons_cons _ .slnil))))) hres)
 ·exact ((y3q rfl (y3q rfl (y3q rfl (y3q rfl (y3q rfl (y31q _)))))))
 ·intro zE110_145 zE108_145 zE106_145 es145E110 a145E110 es145E108 a145E108 es145E106 a145E106 q145E110 n145E110 wr145E110 hl145E110 q145E108 n145E108 wr145E108 hl145E108 q145E106 n145E106 wr145E106 hl145E106 po145_0 h145 M145 hres
  refine px_blk (y6q (y7q (y75q ?_)))
  have M146 : Mem h145 [⟨.op i101 w101 0, 100, 3, [.agg [a145E106, a145E108, a145E110]]⟩, ⟨a145E106, 58, 2, es145E106⟩, ⟨a145E108, 3, 1, es145E108⟩, ⟨a145E110, 3, 1, es145E110⟩] := (Mem.front (k := 3) (Mem.front (k := 2) (Mem.front (k := 1) (Mem.front (k := 0) M145 rfl) rfl) rfl) rfl)
  obtain ⟨y146, hw146, hres⟩ := y47q hres
  obtain ⟨vr146, h150, hX146, hZ146⟩ := f41_ok (x0 := ({ fields := zE106_145, headers := zE108_145, registers := zE110_145 } : y32q)) q145E106 n145E106 hl145E106 wr145E106 q145E108 n145E108 hl145E108 wr145E108 q145E110 n145E110 hl145E110 wr145E110 M146 (by first | omega | ((try dsimp only); (try simp only [List.length_append, List.length_cons, List.length_nil]); omega) | simp)
  rw [hw146] at hZ146
  obtain ⟨as146_0, es146_0, as146_1, es146_1, as146_2, es146_2, M150, qs146_0, ns146_0, hs146_0, wi146_0, qs146_1, ns146_1, hs146_1, wi146_1, qs146_2, ns146_2, hs146_2, wi146_2, hr146⟩ := hZ146
  replace hr146 := hr146.symm; subst hr146
  refine y86q rfl rfl hX146 (y39q (rd_op (y45q rfl rfl) (y40q (y39q (rd_op (y45q rfl rfl) (y40q (y39q (rd_op (y45q rfl rfl) ?_))))))))
  refine y40q (y39q (rd_op (y1q rfl) (y40q (y39q (rd_op (y1q rfl) (y40q (y39q (rd_op (y1q rfl) ?_))))))))
  refine y40q (rs_nil (y6q ?_))
  obtain ⟨v151, d151, r151⟩ := own_sl (P := Try.prog) (k := 0) (t := y4q.t) M150 rfl ns146_0 qs146_0 (Nat.le_trans hs146_0 (by decide))
  obtain ⟨v152, d152, r152⟩ := own_sl (P := Try.prog) (k := 1) (t := tI) M150 rfl ns146_1 qs146_1 (Nat.le_trans hs146_1 (by decide))
  obtain ⟨v153, d153, r153⟩ := own_sl (P := Try.prog) (k := 2) (t := tI) M150 rfl ns146_2 qs146_2 (Nat.le_trans hs146_2 (by decide))
  subst hres
  exact y35q (.tmp rfl (.tmp rfl (.tmp rfl .nil))) (deep_tup (dl_cons d151 (dl_cons d152 (dl_cons d153 dl_nil))) (y15q d151.1 (y15q d152.1 (y15q d153.1 y36q)))) ⟨v151, v152, v153, rfl, r151, r152, r153⟩

end Go.Proofs.Ytmonnlkagniolaa
