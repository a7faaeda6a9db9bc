/-
 The code of each function does what its plain program says.
-/
import Derived.Test.YtmonnlkagniolaaL3W5
set_option linter.unusedVariables false
set_option linter.unusedSimpArgs false
set_option maxRecDepth 100000
namespace Go.Proofs.Ytmonnlkagniolaa
open Go Go.Pb Go.RowKit
/-- patchbay/access.Writes -/
def RF9 (res : (List Int)) (r : PV) : Prop := (tSl tI).R res r
theorem access_Writes_L1_ok {S : List Fr} {res : (List Int)} {x0 : y5q} {x1 : y49q} {y101 : y26q × Bool} {v107_c1 : PV} {v107_c2 : PV} {v107_c3 : PV} {v107_c4 : PV} {v107_c5 : PV} {v107_c6 : PV} {v107_c7 : PV} {v107_c8 : PV} {v110 : PV} {i108 : Nat} {w108 : Nat} (hA : AB x0) (hw101 : y92q x0 x1 = y101) (ek101 : y101.1.Keys.length ≤ 24 ∧ y101.1.Actions.length ≤ 24) (hc106 : (!y101.2) = false) (r110 : (tSl tI).R y101.1.Actions v110) (r113 : y5q.t.R x0 (.agg [vs x0.Name, v107_c1, v107_c2, v107_c3, v107_c4, v107_c5, v107_c6, v107_c7, v107_c8])) {K0 : y9q → (List Int)}
  (hK0 : ∀ (zE109 : y9q) (uwE109H : PV) (uwE109M : PV) (uwE109R : PV) (uwE109A : PV) (uwE109T : PV) (uwE109S : PV) (uwE109C : PV) (uwE109D : PV) (awE109_8 : PV) (eswE109_8 : List PV) (ruwE109H : (tSl y21q.t).R zE109.p.Headers uwE109H) (ruwE109M : (tSl y14q.t).R zE109.p.Metadata uwE109M) (ruwE109R : (tSl y27q.t).R zE109.p.Registers uwE109R) (ruwE109A : (tSl y23q.t).R zE109.p.Actions uwE109A) (ruwE109T : (tSl y26q.t).R zE109.p.Tables uwE109T) (ruwE109S : (tSl y16q.t).R zE109.p.States uwE109S) (ruwE109C : (tSl y8q.t).R zE109.p.Control uwE109C) (ruwE109D : (tSl tI).R zE109.p.Deparser uwE109D) (qswE109_8 : All2 tI.R zE109.cells eswE109_8) (newE109_8 : isL awE109_8 = true) (hlwE109_8 : zE109.cells.length ≤ 4611686018427387904) (wiwE109_9 : Wri awE109_8 eswE109_8) (po0 : zE109.cells.length ≤ 960000) (h : Heap) (M0 : Mem h [⟨awE109_8, 3, 1, eswE109_8⟩, ⟨.op i108 w108 0, 70, 10, [.agg [vs zE109.p.Name, uwE109H, uwE109M, uwE109R, uwE109A, uwE109T, uwE109S, uwE109C, uwE109D, awE109_8]]⟩]), K0 zE109 = res → PX Try.prog 0 S (QR Try.prog [(4, none)] (RF9 res)) [(7, .op i108 w108 0)] h) :
  ∀ (m : Nat) (x24_ : Int) (zE109 : y9q) (uwE109H : PV) (uwE109M : PV) (uwE109R : PV) (uwE109A : PV) (uwE109T : PV) (uwE109S : PV) (uwE109C : PV) (uwE109D : PV) (awE109_8 : PV) (eswE109_8 : List PV) (ruwE109H : (tSl y21q.t).R zE109.p.Headers uwE109H) (ruwE109M : (tSl y14q.t).R zE109.p.Metadata uwE109M) (ruwE109R : (tSl y27q.t).R zE109.p.Registers uwE109R) (ruwE109A : (tSl y23q.t).R zE109.p.Actions uwE109A) (ruwE109T : (tSl y26q.t).R zE109.p.Tables uwE109T) (ruwE109S : (tSl y16q.t).R zE109.p.States uwE109S) (ruwE109C : (tSl y8q.t).R zE109.p.Control uwE109C) (ruwE109D : (tSl tI).R zE109.p.Deparser uwE109D) (qswE109_8 : All2 tI.R zE109.cells eswE109_8) (newE109_8 : isL awE109_8 = true) (hlwE109_8 : zE109.cells.length ≤ 4611686018427387904) (wiwE109_9 : Wri awE109_8 eswE109_8) (hm1 : m = Int.toNat ((y101.1.Actions.length : Int) - x24_)) (hlo1 : 0 ≤ x24_) (iv1_0 : (zE109.cells.length : Int) ≤ 39000 * x24_) (iv1_1 : x24_ ≤ 24) (h : Heap) (M0 : Mem h [⟨awE109_8, 3, 1, eswE109_8⟩, ⟨.op i108 w108 0, 70, 10, [.agg [vs zE109.p.Name, uwE109H, uwE109M, uwE109R, uwE109A, uwE109T, uwE109S, uwE109C, uwE109D, awE109_8]]⟩]), access_Writes_L1 x0 y101 K0 m x24_ zE109 = res → RC Try.prog (.loop ac9_L1) S (QR Try.prog [(4, none)] (RF9 res)) [(24, vi x24_), (23, vi (y101.1.Actions.length : Int)), (22, v110), (7, .op i108 w108 0), (2, .fp (.agg [vs x0.Name, v107_c1, v107_c2, v107_c3, v107_c4, v107_c5, v107_c6, v107_c7, v107_c8]))] h := by
 have hc106' := hc106
 try simp only [qa, qaD] at hc106'
 intro m
 induction m with
 | zero =>
  intro x24_ zE109 uwE109H uwE109M uwE109R uwE109A uwE109T uwE109S uwE109C uwE109D awE109_8 eswE109_8 ruwE109H ruwE109M ruwE109R ruwE109A ruwE109T ruwE109S ruwE109C ruwE109D qswE109_8 newE109_8 hlwE109_8 wiwE109_9 hm1 hlo1 iv1_0 iv1_1 h M0 hres
  rw [access_Writes_L1] at hres
  refine y53q ?_
  unfold ac9_L1
  refine y7q (y2q (rd_op (y20q rfl rfl i_lss) (y10q (y6q (y7q ?_)))))
  refine y24q rfl (fun hc114 => ?_) (fun hc114 => ?_)
  ·exfalso
   try simp only [qa, qaD] at hc114
   omega
  ·have hend := hres
   have hc114' := hc114
   try simp only [qa, qaD] at hc114'
   refine y93q (px_seq (y78q ?_))
   exact y96q ((y3q rfl (y31q _))) (hK0 ({ p := zE109.p, cells := zE109.cells } : y9q) uwE109H uwE109M uwE109R uwE109A uwE109T uwE109S uwE109C uwE109D awE109_8 eswE109_8 (show (tSl y21q.t).R zE109.p.Headers uwE109H from ruwE109H) (show (tSl y14q.t).R zE109.p.Metadata uwE109M from ruwE109M) (show (tSl y27q.t).R zE109.p.Registers uwE109R from ruwE109R) (show (tSl y23q.t).R zE109.p.Actions uwE109A from ruwE109A) (show (tSl y26q.t).R zE109.p.Tables uwE109T from ruwE109T) (show (tSl y16q.t).R zE109.p.States uwE109S from ruwE109S) (show (tSl y8q.t).R zE109.p.Control uwE109C from ruwE109C) (show (tSl tI).R zE109.p.Deparser uwE109D from ruwE109D) qswE109_8 newE109_8 hlwE109_8 wiwE109_9 (by omega) _ (Mem.sub M0 (.cons_cons _ (.cons_cons _ .slnil))) hres)
 | succ m ih =>
  intro x24_ zE109 uwE109H uwE109M uwE109R uwE109A uwE109T uwE109S uwE109C uwE109D awE109_8 eswE109_8 ruwE109H ruwE109M ruwE109R ruwE109A ruwE109T ruwE109S ruwE109C ruwE109D qswE109_8 newE109_8 hlwE109_8 wiwE109_9 hm1 hlo1 iv1_0 iv1_1 h M0 hres
  rw [access_Writes_L1] at hres
  refine y53q ?_
  unfold ac9_L1
  refine y7q (y2q (rd_op (y20q rfl rfl i_lss) (y10q (y6q (y7q ?_)))))
  refine y24q rfl (fun hc115 => ?_) (fun hc115 => ?_)
  ·have hgo := hres
   have hc115' := hc115
   try simp only [qa, qaD] at hc115'
   refine y34q (y6q (y7q (y42q (y7q (y2q (rd_op (y48q rfl rfl (slI r110 (by omega) (by omega))) (rd_op (y19q rfl rfl rfl) (rd_op (y1q rfl) ?_))))))))
   refine y10q (y6q (y75q (y39q (rd_op (y1q rfl) (y40q (y39q (rd_op (y19q rfl (TR.cnt y5q.t r113) (TR.agg y5q.t r113)) (y40q ?_))))))))
   refine y39q (rd_op (y1q rfl) (y40q (y39q ?_)))
   obtain ⟨y120, hw120, hres⟩ := y47q hres
   obtain ⟨v121, v122, v123, f120, r121, r122, r123⟩ := f27_ok (x1 := (ix y101.1.Actions x24_)) r113 (by exact hA.1)
   rw [hw120] at r121 r122 r123
   have ek120 : y120.1.length ≤ 13000 ∧ y120.2.1.length ≤ 13000 ∧ y120.2.2.length ≤ 13000 := awrites_len hA.1 hw120
   refine y52q (cv_fn rfl rfl (y15q (TR.clo y5q.t r113) (y15q rfl y36q)) f120) (y40q (y39q (rd_op (y45q rfl rfl) (y40q (y39q (rd_op (y45q rfl rfl) (y40q (y39q ?_))))))))
   refine rd_op (y45q rfl rfl) (y40q ?_)
   have M124 : Mem h [⟨.op i108 w108 0, 70, 10, [.agg [vs zE109.p.Name, uwE109H, uwE109M, uwE109R, uwE109A, uwE109T, uwE109S, uwE109C, uwE109D, awE109_8]]⟩, ⟨awE109_8, 3, 1, eswE109_8⟩] := (Mem.front (k := 1) (Mem.front (k := 0) M0 rfl) rfl)
   obtain ⟨y124, hw124, hres⟩ := y47q hres
   obtain ⟨vr124, h125, hX124, hZ124⟩ := f20_ok (x0 := ({ p := zE109.p, cells := zE109.cells } : y9q)) (x1 := y120.1) (x2 := y120.2.1) (x3 := y120.2.2) r121 r122 r123 ruwE109H ruwE109M ruwE109R ruwE109A ruwE109T ruwE109S ruwE109C ruwE109D qswE109_8 newE109_8 hlwE109_8 wiwE109_9 M124 (by first | omega | ((try dsimp only); (try simp only [List.length_append, List.length_cons, List.length_nil]); omega) | simp)
   rw [hw124] at hZ124
   obtain ⟨u124_0H, u124_0M, u124_0R, u124_0A, u124_0T, u124_0S, u124_0C, u124_0D, a124_0_8, es124_0_8, M125, ru124_0H, ru124_0M, ru124_0R, ru124_0A, ru124_0T, ru124_0S, ru124_0C, ru124_0D, qs124_0_8, ne124_0_8, hl124_0_8, wi124_0_9, hr124⟩ := hZ124
   replace hr124 := hr124.symm; subst hr124
   refine y86q rfl rfl hX124 ?_
   have ek124 := add_len hw124; try simp only [List.length_cons, List.length_nil] at ek124; try dsimp only at ek124
   refine rs_nil (y67q (y6q (y2q (rd_op (y20q rfl rfl i_add) (rd_op (y1q rfl) (y10q ?_))))))
   have MO126 : Mem h125 [⟨a124_0_8, 3, 1, es124_0_8⟩, ⟨.op i108 w108 0, 70, 10, [.agg [vs y124.p.Name, u124_0H, u124_0M, u124_0R, u124_0A, u124_0T, u124_0S, u124_0C, u124_0D, a124_0_8]]⟩] := (Mem.front (k := 1) (Mem.front (k := 0) M125 rfl) rfl)
   refine y56q ?_
   have hbd := y58q r110
   have hinc : wr (x24_ + 1) = x24_ + 1 := wr_of (by omega) (by omega)
   rw [hinc]
   refine y37q ?_ (ih (x24_ + 1) ({ p := y124.p, cells := y124.cells } : y9q) u124_0H u124_0M u124_0R u124_0A u124_0T u124_0S u124_0C u124_0D a124_0_8 es124_0_8 (show (tSl y21q.t).R y124.p.Headers u124_0H from ru124_0H) (show (tSl y14q.t).R y124.p.Metadata u124_0M from ru124_0M) (show (tSl y27q.t).R y124.p.Registers u124_0R from ru124_0R) (show (tSl y23q.t).R y124.p.Actions u124_0A from ru124_0A) (show (tSl y26q.t).R y124.p.Tables u124_0T from ru124_0T) (show (tSl y16q.t).R y124.p.States u124_0S from ru124_0S) (show (tSl y8q.t).R y124.p.Control u124_0C from ru124_0C) (show (tSl tI).R y124.p.Deparser u124_0D from ru124_0D) qs124_0_8 ne124_0_8 hl124_0_8 wi124_0_9 (by omega) (by omega) (by first | omega | ((try dsimp only); (try simp only [List.length_append, List.length_cons, List.length_nil]); omega) | simp) (by first | omega | ((try dsimp only); (try simp only [List.length_append, List.length_cons, List.length_nil]); omega) | simp) _ (Mem.sub MO126 (.cons_cons _ (.cons_cons _ .slnil))) hres)
   exact ((y3q rfl (y3q rfl (y3q rfl (y3q rfl (y3q rfl (y31q _)))))))
  ·exfalso
   try simp only [qa, qaD] at hc115
   omega

theorem f9_ok {x0 : y5q} {x1 : y49q} {v0 : PV} {v1 : PV} (r0 : y5q.t.R x0 v0) (r1 : y49q.t.R x1 v1) (hA : AB x0) : ∃ r, FnR Try.prog 9 [v0, v1] r ∧ (tSl tI).R (access_Writes x0 x1) r := by
 obtain ⟨res, hres⟩ : ∃ res, access_Writes x0 x1 = res := ⟨_, rfl⟩
 suffices H : RC Try.prog ac9 [] (QR Try.prog [(4, none)] (RF9 res)) (argE 0 [v0, v1]) ⟨0, []⟩ by
  rw [hres]
  exact fnE text9 (by simp) H
 unfold access_Writes at hres
 unfold ac9
 refine y7q (y2q (rd_op (y102q rfl (TR.cnt y5q.t r0)) (rd_op (y102q rfl (TR.cnt y49q.t r1)) (rd_op (v := nilS) (y1q rfl) (y10q (y6q (y7q (y2q ?_))))))))
 refine rd_op (y19q rfl (TR.cnt y5q.t r0) (TR.agg y5q.t r0)) (rd_op (y19q rfl (TR.cnt y49q.t r1) (TR.agg y49q.t r1)) ?_)
 obtain ⟨y101, hw101, hres⟩ := y47q hres
 obtain ⟨v102, f101, r102⟩ := f24_ok  r0 r1 
 rw [hw101] at f101 r102
 have ek101 : y101.1.Keys.length ≤ 24 ∧ y101.1.Actions.length ≤ 24 := declared_ok hw101 hA
 refine y52q (cv_fn rfl rfl (y15q (TR.clo y5q.t r0) (y15q (TR.clo y49q.t r1) y36q)) f101) (rd_op (y1q rfl) (rd_op (y45q rfl rfl) (rd_op (y45q rfl rfl) ?_)))
 refine y94q (x := .agg [vs [], nilS, nilS, vi 0, nilS, vi 0]) (Mem.nil ⟨0, []⟩) rfl rfl (fun i103 w103 h103 M103 => ?_)
 refine y89q (k := 0) (v := v102) M103 rfl rfl rfl (TR.cnt y26q.t r102) (fun h105 M105 => ?_)
 replace M105 : Mem h105 [⟨.op i103 w103 0, 55, 6, [v102]⟩] := M105
 refine rd_op (y1q rfl) (y10q (y6q (y7q (y7q (y2q (rd_op (y1q rfl) (rd_op (ov_not rfl) (y10q ?_))))))))
 refine y6q ?_
 refine y24q rfl (fun hc106 => ?_) (fun hc106 => ?_)
 ·replace hres := (ite_t hc106).symm.trans hres
  have hc106' := hc106
  try simp only [qa, qaD] at hc106'
  refine y7q (y2q (rd_op (v := nilS) (y1q rfl) (y10q (y6q ?_))))
  subst hres
  exact y35q (.tmp rfl .nil) (y17q (TR.clo (tSl tI) sl_nil)) sl_nil
 ·replace hres := (ite_f hc106).symm.trans hres
  have hc106' := hc106
  try simp only [qa, qaD] at hc106'
  refine y34q (y6q (y7q (y2q (rd_op (y19q rfl (TR.cnt y5q.t r0) (TR.agg y5q.t r0)) ?_))))
  obtain ⟨v107_c1, v107_c2, v107_c3, v107_c4, v107_c5, v107_c6, v107_c7, v107_c8, e107, r107_c1, r107_c2, r107_c3, r107_c4, r107_c5, r107_c6, r107_c7, r107_c8⟩ := r0
  subst e107
  refine rd_op (v := .agg [vs x0.Name, v107_c1, v107_c2, v107_c3, v107_c4, v107_c5, v107_c6, v107_c7, v107_c8, nilS]) (ov_build (cs := [vs x0.Name, v107_c1, v107_c2, v107_c3, v107_c4, v107_c5, v107_c6, v107_c7, v107_c8, nilS]) rfl rfl) ?_
  refine rd_boxO (x := .agg [vs x0.Name, v107_c1, v107_c2, v107_c3, v107_c4, v107_c5, v107_c6, v107_c7, v107_c8, nilS]) M105 rfl rfl (fun i108 w108 h108 M108 => ?_)
  refine rd_op (y1q rfl) (y10q (y6q (y7q (y7q (y2q (rd_op (y33q rfl) ?_))))))
  obtain ⟨v110, e110, r110⟩ := y26q.g_Actions r102
  refine rd_op (y43q (k := 1) M108 rfl rfl e110) (rd_op (ov_bi rfl (y62q r110 Try.underlying29 _)) (rd_op (v := vi 0) (y1q rfl) (y10q (y6q (y42q ?_)))))
  have M111 := mem_acc (sz := 1) (es := []) M108 3 (.inl ⟨none, rfl, rfl⟩) (by simp)
  have r113 : y5q.t.R x0 (.agg [vs x0.Name, v107_c1, v107_c2, v107_c3, v107_c4, v107_c5, v107_c6, v107_c7, v107_c8]) := ⟨v107_c1, v107_c2, v107_c3, v107_c4, v107_c5, v107_c6, v107_c7, v107_c8, rfl, r107_c1, r107_c2, r107_c3, r107_c4, r107_c5, r107_c6, r107_c7, r107_c8⟩
  refine y37q ?_ (access_Writes_L1_ok (x0 := x0) (x1 := x1) (y101 := y101) (v107_c1 := v107_c1) (v107_c2 := v107_c2) (v107_c3 := v107_c3) (v107_c4 := v107_c4) (v107_c5 := v107_c5) (v107_c6 := v107_c6) (v107_c7 := v107_c7) (v107_c8 := v107_c8) (v110 := v110) (i108 := i108) (w108 := w108) (hA := hA) (hw101 := hw101) (ek101 := ek101) (hc106 := hc106) (r110 := r110) (r113 := r113) ?_ (Int.toNat ((y101.1.Actions.length : Int) - 0)) 0 ({ p := x0, cells := ([] : List Int) } : y9q) v107_c1 v107_c2 v107_c3 v107_c4 v107_c5 v107_c6 v107_c7 v107_c8 nilS ([] : List PV) (show (tSl y21q.t).R x0.Headers v107_c1 from r107_c1) (show (tSl y14q.t).R x0.Metadata v107_c2 from r107_c2) (show (tSl y27q.t).R x0.Registers v107_c3 from r107_c3) (show (tSl y23q.t).R x0.Actions v107_c4 from r107_c4) (show (tSl y26q.t).R x0.Tables v107_c5 from r107_c5) (show (tSl y16q.t).R x0.States v107_c6 from r107_c6) (show (tSl y8q.t).R x0.Control v107_c7 from r107_c7) (show (tSl tI).R x0.Deparser v107_c8 from r107_c8) (show All2 tI.R ([] : List Int) [] from trivial) rfl (by first | decide | simp) (.inl rfl) rfl (by omega) (by first | omega | ((try dsimp only); (try simp only [List.length_append, List.length_cons, List.length_nil]); omega) | simp) (by first | omega | ((try dsimp only); (try simp only [List.length_append, List.length_cons, List.length_nil]); omega) | simp) _ (Mem.sub M111 (.cons_cons _ (.cons_cons _ (.cons _ .slnil)))) hres)
  ·exact ((y3q rfl (y3q rfl (y3q rfl (y3q rfl (y3q rfl (y31q _)))))))
  ·intro zE109_127 uw127E109H uw127E109M uw127E109R uw127E109A uw127E109T uw127E109S uw127E109C uw127E109D aw127E109_8 esw127E109_8 ruw127E109H ruw127E109M ruw127E109R ruw127E109A ruw127E109T ruw127E109S ruw127E109C ruw127E109D qsw127E109_8 new127E109_8 hlw127E109_8 wiw127E109_9 po127_0 h127 M127 hres
   refine px_blk (y6q (y7q (y75q (y39q (rd_op (y1q rfl) (y40q ?_))))))
   have M128 : Mem h127 [⟨.op i108 w108 0, 70, 10, [.agg [vs zE109_127.p.Name, uw127E109H, uw127E109M, uw127E109R, uw127E109A, uw127E109T, uw127E109S, uw127E109C, uw127E109D, aw127E109_8]]⟩, ⟨aw127E109_8, 3, 1, esw127E109_8⟩] := (Mem.front (k := 1) (Mem.front (k := 0) M127 rfl) rfl)
   obtain ⟨y128, hw128, hres⟩ := y47q hres
   obtain ⟨vr128, h130, hX128, hZ128⟩ := f23_ok (x0 := ({ p := zE109_127.p, cells := zE109_127.cells } : y9q)) ruw127E109H ruw127E109M ruw127E109R ruw127E109A ruw127E109T ruw127E109S ruw127E109C ruw127E109D qsw127E109_8 new127E109_8 hlw127E109_8 wiw127E109_9 M128 (by first | omega | ((try dsimp only); (try simp only [List.length_append, List.length_cons, List.length_nil]); omega) | simp)
   rw [hw128] at hZ128
   obtain ⟨as128_0, es128_0, M130, qs128_0, ns128_0, hs128_0, wi128_0, hr128⟩ := hZ128
   replace hr128 := hr128.symm; subst hr128
   refine y86q rfl rfl hX128 (y39q (rd_op (y1q rfl) (y40q (rs_nil (y6q ?_)))))
   obtain ⟨v131, d131, r131⟩ := own_sl (P := Try.prog) (k := 0) (t := tI) M130 rfl ns128_0 qs128_0 (Nat.le_trans hs128_0 (by decide))
   subst hres
   exact y35q (.tmp rfl .nil) d131 r131

/-- patchbay/patchbaylaw31.AccessSorted -/
def RF3 (res : Bool) (r : PV) : Prop := r = vb res
theorem f3_ok {x0 : y5q} {x1 : y49q} {v0 : PV} {v1 : PV} (r0 : y5q.t.R x0 v0) (r1 : y49q.t.R x1 v1) : FnR Try.prog 3 [v0, v1] (vb (law31_AccessSorted x0 x1)) := by
 obtain ⟨res, hres⟩ : ∃ res, law31_AccessSorted x0 x1 = res := ⟨_, rfl⟩
 suffices H : RC Try.prog ac3 [] (QR Try.prog [(4, none)] (RF3 res)) (argE 0 [v0, v1]) ⟨0, []⟩ by
  obtain ⟨r, h1, h2⟩ := fnE text3 (by simp) H
  rw [hres]
  have h2 : r = vb res := h2
  rw [← h2]; exact h1
 unfold law31_AccessSorted at hres
 unfold ac3
 refine y7q (y2q (rd_op (y102q rfl (TR.cnt y5q.t r0)) (rd_op (y102q rfl (TR.cnt y49q.t r1)) (rd_op (v := vb false) (y1q rfl) (y10q (y6q (y7q (y7q ?_))))))))
 refine y2q (rd_op (y19q rfl (TR.cnt y5q.t r0) (TR.agg y5q.t r0)) ?_)
 obtain ⟨y101, hw101, hres⟩ := y47q hres
 have f101 := f4_ok  r0 
 rw [hw101] at f101
 refine y52q (cv_fn rfl rfl (y15q (TR.clo y5q.t r0) y36q) f101) (rd_op (y1q rfl) ?_)
 refine y63q (d := 12) (v := vb (y101 || (decide (60 < (x1.Cond.length : Int))))) ?_ ?_
 ·intro S Q r
  simp only [ac3_G1, List.cons_append, List.nil_append, List.append_assoc]
  cases hb102 : y101
  ·intro k
   have hb102' := hb102
   try simp only [qa, qaD] at hb102'
   obtain ⟨v103, e103, r103⟩ := y49q.g_Cond r1
   refine y18q rfl rfl (y22q rfl e103) (y18q rfl rfl (y19q rfl (TR.cnt (tSl y11q.t) r103) (TR.agg (tSl y11q.t) r103)) (y18q rfl rfl (ov_bi rfl (y62q r103 Try.underlying32 _)) (y18q rfl rfl (y20q rfl rfl i_gtr) (rd_op (v := vb (decide (60 < (x1.Cond.length : Int)))) (y30q rfl rfl rfl rfl) ?_))))
   exact y29q (y3q rfl (y0q rfl (y0q rfl (y0q rfl (y0q rfl (y0q rfl (y25q _))))))) k
  ·intro k
   refine y12q rfl rfl (y12q rfl rfl (y12q rfl rfl (y12q rfl rfl (rd_op (v := vb true) (y30q rfl rfl rfl rfl) ?_))))
   exact y29q (y3q rfl (y0q rfl (y0q rfl (y0q rfl (y0q rfl (y0q rfl (y25q _))))))) k
 refine y10q (y6q ?_)
 refine y24q rfl (fun hc104 => ?_) (fun hc104 => ?_)
 ·replace hres := (ite_t hc104).symm.trans hres
  have hc104' := hc104
  try simp only [qa, qaD] at hc104'
  refine y7q (y2q ?_)
  obtain ⟨y105, hw105, hres⟩ := y47q hres
  have f105 := f5_ok   
  rw [hw105] at f105
  refine y52q (cv_fn rfl rfl y36q f105) (rd_op (y1q rfl) (y10q (y6q ?_)))
  subst hres
  exact y35q (.tmp rfl .nil) (y17q rfl) rfl
 ·replace hres := (ite_f hc104).symm.trans hres
  have hc104' := hc104
  try simp only [qa, qaD] at hc104'
  refine y34q (y6q (y7q (y2q (rd_op (y19q rfl (TR.cnt y5q.t r0) (TR.agg y5q.t r0)) (rd_op (y19q rfl (TR.cnt y49q.t r1) (TR.agg y49q.t r1)) ?_)))))
  obtain ⟨y106, hw106, hres⟩ := y47q hres
  obtain ⟨v107, f106, r107⟩ := f7_ok  r0 r1 (by first | exact tlAB (by assumption) (by assumption) | exact tlAB (by assumption) (And.left (by assumption)) | omega) (by first | exact tlAB (by assumption) (by assumption) | exact tlAB (by assumption) (And.left (by assumption)) | omega)
  rw [hw106] at r107
  refine y52q (cv_fn rfl rfl (y15q (TR.clo y5q.t r0) (y15q (TR.clo y49q.t r1) y36q)) f106) (rd_op (y19q rfl (TR.cnt y5q.t r0) (TR.agg y5q.t r0)) ?_)
  obtain ⟨y108, hw108, hres⟩ := y47q hres
  have f108 := f8_ok  r0 
  rw [hw108] at f108
  refine y52q (cv_fn rfl rfl (y15q (TR.clo y5q.t r0) y36q) f108) ?_
  obtain ⟨y109, hw109, hres⟩ := y47q hres
  have f109 := f6_ok (x1 := y108) r107 
  rw [hw109] at f109
  refine y52q (cv_fn rfl rfl (y15q (TR.clo (tSl tI) r107) (y15q rfl y36q)) f109) (rd_op (y1q rfl) ?_)
  refine y63q (d := 27) (v := vb (y109 && (law31_sorted (access_Writes x0 x1) (y79q x0)))) ?_ ?_
  ·intro S Q r
   simp only [ac3_G2, List.cons_append, List.nil_append, List.append_assoc]
   cases hb110 : y109
   ·intro k
    refine y12q rfl rfl (y12q rfl rfl (y12q rfl rfl (y12q rfl rfl (y12q rfl rfl (y12q rfl rfl (rd_op (v := vb false) (y30q rfl rfl rfl rfl) ?_))))))
    exact y29q (y3q rfl (y0q rfl (y0q rfl (y0q rfl (y0q rfl (y0q rfl (y0q rfl (y0q rfl (y25q _))))))))) k
   ·intro k
    have hb110' := hb110
    try simp only [qa, qaD] at hb110'
    refine y18q rfl rfl (y19q rfl (TR.cnt y5q.t r0) (TR.agg y5q.t r0)) (y18q rfl rfl (y19q rfl (TR.cnt y49q.t r1) (TR.agg y49q.t r1)) ?_)
    obtain ⟨v112, f111, r112⟩ := f9_ok  r0 r1 (by first | exact tlAB (by assumption) (by assumption) | exact tlAB (by assumption) (And.left (by assumption)) | omega)
    refine rd_ycall rfl rfl (cv_fn rfl rfl (y15q (TR.clo y5q.t r0) (y15q (TR.clo y49q.t r1) y36q)) f111) (y18q rfl rfl (y19q rfl (TR.cnt y5q.t r0) (TR.agg y5q.t r0)) ?_)
    have f113 := f8_ok  r0 
    refine rd_ycall rfl rfl (cv_fn rfl rfl (y15q (TR.clo y5q.t r0) y36q) f113) ?_
    have f114 := f6_ok (x1 := (y79q x0)) r112 
    refine rd_ycall rfl rfl (cv_fn rfl rfl (y15q (TR.clo (tSl tI) r112) (y15q rfl y36q)) f114) (rd_op (v := vb (law31_sorted (access_Writes x0 x1) (y79q x0))) (y30q rfl rfl rfl rfl) ?_)
    exact y29q (y3q rfl (y0q rfl (y0q rfl (y0q rfl (y0q rfl (y0q rfl (y0q rfl (y0q rfl (y25q _))))))))) k
  refine rd_op (y1q rfl) ?_
  refine y63q (d := 30) (v := vb ((y109 && (law31_sorted (access_Writes x0 x1) (y79q x0))) && (law31_works))) ?_ ?_
  ·intro S Q r
   simp only [ac3_G3, List.cons_append, List.nil_append, List.append_assoc]
   cases hb115 : (y109 && (law31_sorted (access_Writes x0 x1) (y79q x0)))
   ·intro k
    refine y12q rfl rfl (rd_op (v := vb false) (y30q rfl rfl rfl rfl) ?_)
    exact y29q (y3q rfl (y0q rfl (y0q rfl (y25q _)))) k
   ·intro k
    have hb115' := hb115
    try simp only [qa, qaD] at hb115'
    have f116 := f5_ok   
    refine rd_ycall rfl rfl (cv_fn rfl rfl y36q f116) (rd_op (v := vb (law31_works)) (y30q rfl rfl rfl rfl) ?_)
    exact y29q (y3q rfl (y0q rfl (y0q rfl (y25q _)))) k
  refine rd_op (y1q rfl) (y10q (y6q ?_))
  subst hres
  exact y35q (.tmp rfl .nil) (y17q rfl) rfl

end Go.Proofs.Ytmonnlkagniolaa
