/-
 The code of each function does what its plain program says.
-/
import Derived.Test.YtmonnlkagniolaaL3W0
set_option linter.unusedVariables false
set_option linter.unusedSimpArgs false
set_option maxRecDepth 100000
namespace Go.Proofs.Ytmonnlkagniolaa
open Go Go.Pb Go.RowKit
/-- cmp.Or[int] -/
def RF34 (res : Int) (r : PV) : Prop := r = vi res
theorem cmp_Or_int_L1_ok {S : List Fr} {res : Int} {x0 : List Int} {v0 : PV} (r0 : (tSl tI).R x0 v0) {K0 : Unit → Int}
  (hK0 : K0 () = res → PX Try.prog 0 S (QR Try.prog [(2, none)] (RF34 res)) [(3, vi 0)] ⟨0, []⟩) :
  ∀ (m : Nat) (x8_ : Int) (hm1 : m = Int.toNat ((x0.length : Int) - x8_)) (hlo1 : 0 ≤ x8_), cmp_Or_int_L1 x0 K0 m x8_ = res → RC Try.prog (.loop ac34_L1) S (QR Try.prog [(2, none)] (RF34 res)) [(8, vi x8_), (7, vi (x0.length : Int)), (6, v0), (3, vi 0)] ⟨0, []⟩ := by
 intro m
 induction m with
 | zero =>
  intro x8_ hm1 hlo1 hres
  rw [cmp_Or_int_L1] at hres
  refine y53q ?_
  unfold ac34_L1
  refine y7q (y2q (rd_op (y20q rfl rfl i_lss) (y10q (y6q (y7q ?_)))))
  refine y24q rfl (fun hc101 => ?_) (fun hc101 => ?_)
  ·exfalso
   try simp only [qa, qaD] at hc101
   omega
  ·have hend := hres
   have hc101' := hc101
   try simp only [qa, qaD] at hc101'
   refine y93q (px_seq (y78q ?_))
   exact y96q ((y3q rfl (y31q _))) (hK0  hres)
 | succ m ih =>
  intro x8_ hm1 hlo1 hres
  rw [cmp_Or_int_L1] at hres
  refine y53q ?_
  unfold ac34_L1
  refine y7q (y2q (rd_op (y20q rfl rfl i_lss) (y10q (y6q (y7q ?_)))))
  refine y24q rfl (fun hc102 => ?_) (fun hc102 => ?_)
  ·have hgo := hres
   have hc102' := hc102
   try simp only [qa, qaD] at hc102'
   refine y34q (y6q (y7q (y42q (y7q (y2q (rd_op (y48q rfl rfl (slI r0 (by omega) (by omega))) (rd_op (y19q rfl rfl rfl) (rd_op (y1q rfl) ?_))))))))
   refine y10q (y6q (y7q (y2q (rd_op (y1q rfl) (rd_op (y1q rfl) (rd_op (y20q rfl rfl i_neq) (y10q (y6q ?_))))))))
   refine y24q rfl (fun hc103 => ?_) (fun hc103 => ?_)
   ·replace hres := (ite_t hc103).symm.trans hres
    have hc103' := hc103
    try simp only [qa, qaD] at hc103'
    refine y7q (y2q (rd_op (y1q rfl) (rd_op (y1q rfl) (y10q (y6q ?_)))))
    subst hres
    exact y35q (.tmp rfl .nil) (y17q rfl) rfl
   ·replace hres := (ite_f hc103).symm.trans hres
    have hc103' := hc103
    try simp only [qa, qaD] at hc103'
    refine y34q (y67q (y6q (y2q (rd_op (y20q rfl rfl i_add) (rd_op (y1q rfl) (y10q (y56q ?_)))))))
    have hbd := y58q r0
    have hinc : wr (x8_ + 1) = x8_ + 1 := wr_of (by omega) (by omega)
    rw [hinc]
    refine y37q ?_ (ih (x8_ + 1)  (by omega) (by omega) hres)
    exact ((y3q rfl (y3q rfl (y3q rfl (y3q rfl (y31q _))))))
  ·exfalso
   try simp only [qa, qaD] at hc102
   omega

theorem f34_ok {x0 : List Int} {v0 : PV} (r0 : (tSl tI).R x0 v0) : FnR Try.prog 34 [v0] (vi (cmp_Or_int x0)) := by
 obtain ⟨res, hres⟩ : ∃ res, cmp_Or_int x0 = res := ⟨_, rfl⟩
 suffices H : RC Try.prog ac34 [] (QR Try.prog [(2, none)] (RF34 res)) (argE 0 [v0]) ⟨0, []⟩ by
  obtain ⟨r, h1, h2⟩ := fnE text34 (by simp) H
  rw [hres]
  have h2 : r = vi res := h2
  rw [← h2]; exact h1
 unfold cmp_Or_int at hres
 unfold ac34
 refine y7q (y2q (rd_op (v := vi 0) (y1q rfl) (y10q (y6q (y7q (y2q (rd_op (v := vi 0) (y1q rfl) (y10q ?_))))))))
 refine y6q (y7q (y7q (y2q (rd_op (y1q rfl) (rd_op (ov_bi rfl (y62q r0 Try.underlying29 _)) (rd_op (v := vi 0) (y1q rfl) (y10q (y6q ?_))))))))
 refine y42q ?_
 refine y37q ?_ (cmp_Or_int_L1_ok (x0 := x0) (v0 := v0)  (r0 := r0) ?_ (Int.toNat ((x0.length : Int) - 0)) 0 rfl (by omega) hres)
 ·exact ((y3q rfl (y3q rfl (y3q rfl (y3q rfl (y31q _))))))
 ·intro  hres
  refine px_blk (y6q (y7q (y2q (rd_op (y1q rfl) (rd_op (y1q rfl) (y10q (y6q ?_)))))))
  subst hres
  exact y35q (.tmp rfl .nil) (y17q rfl) rfl

/-- patchbay/expr.Fields$1 -/
def RF33 (res : Int) (r : PV) : Prop := r = vi res
theorem f33_ok {x0 : y4q} {x1 : y4q} {v0 : PV} {v1 : PV} (r0 : y4q.t.R x0 v0) (r1 : y4q.t.R x1 v1) : FnR Try.prog 33 [v0, v1] (vi (y107q x0 x1)) := by
 obtain ⟨res, hres⟩ : ∃ res, y107q x0 x1 = res := ⟨_, rfl⟩
 suffices H : RC Try.prog ac33 [] (QR Try.prog [(4, none)] (RF33 res)) (argE 0 [v0, v1]) ⟨0, []⟩ by
  obtain ⟨r, h1, h2⟩ := fnE text33 (by simp) H
  rw [hres]
  have h2 : r = vi res := h2
  rw [← h2]; exact h1
 unfold y107q at hres
 unfold ac33
 refine y7q (y2q (rd_op (y102q rfl (TR.cnt y4q.t r0)) (rd_op (y102q rfl (TR.cnt y4q.t r1)) (rd_op (v := vi 0) (y1q rfl) (y10q (y6q (y7q (y2q ?_))))))))
 refine rd_op (y22q rfl (y4q.g_Header r0)) (rd_op (y19q rfl rfl rfl) (rd_op (y22q rfl (y4q.g_Header r1)) (rd_op (y19q rfl rfl rfl) ?_)))
 obtain ⟨y101, hw101, hres⟩ := y47q hres
 have f101 := f35_ok (x0 := x0.Header) (x1 := x1.Header)  
 rw [hw101] at f101
 refine y52q (cv_fn rfl rfl (y15q rfl (y15q rfl y36q)) f101) (rd_op (y22q rfl (y4q.g_Field r0)) (rd_op (y19q rfl rfl rfl) (rd_op (y22q rfl (y4q.g_Field r1)) (rd_op (y19q rfl rfl rfl) ?_))))
 obtain ⟨y102, hw102, hres⟩ := y47q hres
 have f102 := f35_ok (x0 := x0.Field) (x1 := x1.Field)  
 rw [hw102] at f102
 refine y52q (cv_fn rfl rfl (y15q rfl (y15q rfl y36q)) f102) (rd_op (v := .fs true [vi y101, vi y102]) (ov_bslice rfl (all_cons rfl (all_cons rfl all_nil))) ?_)
 have r103 : (tSl tI).R ([y101, y102] : List Int) (.fs true [vi y101, vi y102]) := sl_fs ⟨rfl, ⟨rfl, trivial⟩⟩ (by simp)
 obtain ⟨y104, hw104, hres⟩ := y47q hres
 have f104 := f34_ok  r103 
 rw [hw104] at f104
 refine y52q (cv_fn rfl rfl (y15q (TR.clo (tSl tI) r103) y36q) f104) (rd_op (y1q rfl) (y10q (y6q ?_)))
 subst hres
 exact y35q (.tmp rfl .nil) (y17q rfl) rfl

/-- (*patchbay/action.access).sorted$1 -/
def RF51 (res : Int) (r : PV) : Prop := r = vi res
theorem f51_ok {x0 : y4q} {x1 : y4q} {v0 : PV} {v1 : PV} (r0 : y4q.t.R x0 v0) (r1 : y4q.t.R x1 v1) : FnR Try.prog 51 [v0, v1] (vi (y55q x0 x1)) := by
 obtain ⟨res, hres⟩ : ∃ res, y55q x0 x1 = res := ⟨_, rfl⟩
 suffices H : RC Try.prog ac51 [] (QR Try.prog [(4, none)] (RF51 res)) (argE 0 [v0, v1]) ⟨0, []⟩ by
  obtain ⟨r, h1, h2⟩ := fnE text51 (by simp) H
  rw [hres]
  have h2 : r = vi res := h2
  rw [← h2]; exact h1
 unfold y55q at hres
 unfold ac51
 refine y7q (y2q (rd_op (y102q rfl (TR.cnt y4q.t r0)) (rd_op (y102q rfl (TR.cnt y4q.t r1)) (rd_op (v := vi 0) (y1q rfl) (y10q (y6q (y7q (y2q ?_))))))))
 refine rd_op (y22q rfl (y4q.g_Header r0)) (rd_op (y19q rfl rfl rfl) (rd_op (y22q rfl (y4q.g_Header r1)) (rd_op (y19q rfl rfl rfl) ?_)))
 obtain ⟨y101, hw101, hres⟩ := y47q hres
 have f101 := f35_ok (x0 := x0.Header) (x1 := x1.Header)  
 rw [hw101] at f101
 refine y52q (cv_fn rfl rfl (y15q rfl (y15q rfl y36q)) f101) (rd_op (y22q rfl (y4q.g_Field r0)) (rd_op (y19q rfl rfl rfl) (rd_op (y22q rfl (y4q.g_Field r1)) (rd_op (y19q rfl rfl rfl) ?_))))
 obtain ⟨y102, hw102, hres⟩ := y47q hres
 have f102 := f35_ok (x0 := x0.Field) (x1 := x1.Field)  
 rw [hw102] at f102
 refine y52q (cv_fn rfl rfl (y15q rfl (y15q rfl y36q)) f102) (rd_op (v := .fs true [vi y101, vi y102]) (ov_bslice rfl (all_cons rfl (all_cons rfl all_nil))) ?_)
 have r103 : (tSl tI).R ([y101, y102] : List Int) (.fs true [vi y101, vi y102]) := sl_fs ⟨rfl, ⟨rfl, trivial⟩⟩ (by simp)
 obtain ⟨y104, hw104, hres⟩ := y47q hres
 have f104 := f34_ok  r103 
 rw [hw104] at f104
 refine y52q (cv_fn rfl rfl (y15q (TR.clo (tSl tI) r103) y36q) f104) (rd_op (y1q rfl) (y10q (y6q ?_)))
 subst hres
 exact y35q (.tmp rfl .nil) (y17q rfl) rfl

def RF32033 (a0 : PV) (R_ : List Ent) (res : List y4q) (r : PV) (h : Heap) : Prop := ∃ es : List PV, Mem h (⟨a0, 58, 2, es⟩ :: R_) ∧ All2 y4q.t.R res es ∧ res.length ≤ 4611686018427387904 ∧ Wri a0 es ∧ r = .tup []
theorem f32033_ok {x0 : List y4q} {a0 : PV} {es0 : List PV} {R_ : List Ent} {h_ : Heap} (q : All2 y4q.t.R x0 es0) (ne : isL a0 = true) (hl : x0.length ≤ 4611686018427387904) (wi : Wri a0 es0) (M : Mem h_ (⟨a0, 58, 2, es0⟩ :: R_)) (hb : x0.length ≤ 1000000) : ∃ r h2_, FnX Try.prog 32 [a0, .fn (.func 33) [] []] h_ r h2_ ∧ RF32033 a0 R_ (sort_expr_Fields_1 x0) r h2_ := by
 obtain ⟨r, h2, X, es', M2, q2, w2, hr⟩ := sort_fn_X (t := y4q.t) (mk := frmk) (enc := frenc) (cf := y107q) text32.enters (fun x v h => h) (fun x => rfl) (fun x => rfl) (fun x => rfl) (fun x u hu => by simp [frenc] at hu; rcases hu with rfl | rfl <;> rfl) (fun x y => f33_ok rfl rfl) (fun blk off cap d w hc hH hb hs => Go.Proofs.Try.sortF_calls frenc (fun x => rfl) (fun x u hu => by simp [frenc] at hu; rcases hu with rfl | rfl <;> rfl) y107q fr_swo fr_total 33 text33.enters blk off cap d w hc hH hb hs) (fun p cap w => Go.Proofs.Try.sortF_none p cap _ w) q ne hb wi M
 exact ⟨r, h2, X, es', M2, q2, by rw [sort_expr_Fields_1, List.length_mergeSort]; exact hl, w2, hr⟩

def RF32051 (a0 : PV) (R_ : List Ent) (res : List y4q) (r : PV) (h : Heap) : Prop := ∃ es : List PV, Mem h (⟨a0, 58, 2, es⟩ :: R_) ∧ All2 y4q.t.R res es ∧ res.length ≤ 4611686018427387904 ∧ Wri a0 es ∧ r = .tup []
theorem f32051_ok {x0 : List y4q} {a0 : PV} {es0 : List PV} {R_ : List Ent} {h_ : Heap} (q : All2 y4q.t.R x0 es0) (ne : isL a0 = true) (hl : x0.length ≤ 4611686018427387904) (wi : Wri a0 es0) (M : Mem h_ (⟨a0, 58, 2, es0⟩ :: R_)) (hb : x0.length ≤ 1000000) : ∃ r h2_, FnX Try.prog 32 [a0, .fn (.func 51) [] []] h_ r h2_ ∧ RF32051 a0 R_ (y101q x0) r h2_ := by
 obtain ⟨r, h2, X, es', M2, q2, w2, hr⟩ := sort_fn_X (t := y4q.t) (mk := frmk) (enc := frenc) (cf := y55q) text32.enters (fun x v h => h) (fun x => rfl) (fun x => rfl) (fun x => rfl) (fun x u hu => by simp [frenc] at hu; rcases hu with rfl | rfl <;> rfl) (fun x y => f51_ok rfl rfl) (fun blk off cap d w hc hH hb hs => Go.Proofs.Try.sortF_calls frenc (fun x => rfl) (fun x u hu => by simp [frenc] at hu; rcases hu with rfl | rfl <;> rfl) y55q fs_swo fs_total 51 text51.enters blk off cap d w hc hH hb hs) (fun p cap w => Go.Proofs.Try.sortF_none p cap _ w) q ne hb wi M
 exact ⟨r, h2, X, es', M2, q2, by rw [y101q, List.length_mergeSort]; exact hl, w2, hr⟩

theorem f36_ok {x0 : List y4q} {a0 : PV} {es0 : List PV} {R_ : List Ent} {h_ : Heap} (q : All2 y4q.t.R x0 es0) (ne : isL a0 = true) (hl : x0.length ≤ 4611686018427387904) (wi : Wri a0 es0) (M : Mem h_ (⟨a0, 58, 2, es0⟩ :: R_)) : ∃ r h2_, FnX Try.prog 36 [a0] h_ r h2_ ∧ RF36 R_ (y85q x0) r h2_ := f36_cpt q ne hl wi M

/-- patchbay/expr.Fields -/
def RF21 (res : (List y4q)) (r : PV) : Prop := (tSl y4q.t).R res r
theorem expr_Fields_L1_ok {S : List Fr} {res : (List y4q)} {x0 : List y11q} {v0 : PV} (r0 : (tSl y11q.t).R x0 v0) (hb : x0.length ≤ 1000) {K0 : (List y4q) → (List y4q)}
  (hK0 : ∀ (zE102 : List y4q) (esE102 : List PV) (aE102 : PV) (qE102 : All2 y4q.t.R zE102 esE102) (nE102 : isL aE102 = true) (wrE102 : Wri aE102 esE102) (hlE102 : zE102.length ≤ 4611686018427387904) (po0 : zE102.length ≤ 1000) (h : Heap) (M0 : Mem h [⟨aE102, 58, 2, esE102⟩]), K0 zE102 = res → PX Try.prog 0 S (QR Try.prog [(2, none)] (RF21 res)) [(3, aE102)] h) :
  ∀ (m : Nat) (x8_ : Int) (zE102 : List y4q) (esE102 : List PV) (aE102 : PV) (qE102 : All2 y4q.t.R zE102 esE102) (nE102 : isL aE102 = true) (wrE102 : Wri aE102 esE102) (hlE102 : zE102.length ≤ 4611686018427387904) (hm1 : m = Int.toNat ((x0.length : Int) - x8_)) (hlo1 : 0 ≤ x8_) (iv1_0 : (zE102.length : Int) ≤ x8_) (iv1_1 : x8_ ≤ (x0.length : Int)) (h : Heap) (M0 : Mem h [⟨aE102, 58, 2, esE102⟩]), expr_Fields_L1 x0 K0 m x8_ zE102 = res → RC Try.prog (.loop ac21_L1) S (QR Try.prog [(2, none)] (RF21 res)) [(8, vi x8_), (7, vi (x0.length : Int)), (6, v0), (3, aE102)] h := by
 have hb' := hb
 try simp only [qa, qaD] at hb'
 intro m
 induction m with
 | zero =>
  intro x8_ zE102 esE102 aE102 qE102 nE102 wrE102 hlE102 hm1 hlo1 iv1_0 iv1_1 h M0 hres
  rw [expr_Fields_L1] at hres
  refine y53q ?_
  unfold ac21_L1
  refine y7q (y2q (rd_op (y20q rfl rfl i_lss) (y10q (y6q (y7q ?_)))))
  refine y24q rfl (fun hc103 => ?_) (fun hc103 => ?_)
  ·exfalso
   try simp only [qa, qaD] at hc103
   omega
  ·have hend := hres
   have hc103' := hc103
   try simp only [qa, qaD] at hc103'
   refine y93q (px_seq (y78q ?_))
   exact y96q ((y3q rfl (y31q _))) (hK0 zE102 esE102 aE102 qE102 nE102 wrE102 hlE102 (by omega) _ (Mem.sub M0 (.cons_cons _ .slnil)) hres)
 | succ m ih =>
  intro x8_ zE102 esE102 aE102 qE102 nE102 wrE102 hlE102 hm1 hlo1 iv1_0 iv1_1 h M0 hres
  rw [expr_Fields_L1] at hres
  refine y53q ?_
  unfold ac21_L1
  refine y7q (y2q (rd_op (y20q rfl rfl i_lss) (y10q (y6q (y7q ?_)))))
  refine y24q rfl (fun hc104 => ?_) (fun hc104 => ?_)
  ·have hgo := hres
   have hc104' := hc104
   try simp only [qa, qaD] at hc104'
   refine y34q (y6q (y7q (y42q (y7q (y2q ?_)))))
   obtain ⟨v105, e105, r105⟩ := y106q (i := x8_) r0 (by omega) (by omega)
   refine rd_op (y48q rfl rfl e105) (rd_op (y19q rfl (TR.cnt y11q.t r105) (TR.agg y11q.t r105)) ?_)
   refine y94q (x := .agg [vi 0, vi 0, vi 0]) M0 rfl rfl (fun i106 w106 h106 M106 => ?_)
   refine y89q (k := 0) (v := v105) M106 rfl rfl rfl (TR.cnt y11q.t r105) (fun h108 M108 => ?_)
   replace M108 : Mem h108 [⟨.op i106 w106 0, 64, 3, [v105]⟩, ⟨aE102, 58, 2, esE102⟩] := M108
   refine y10q (y6q (y7q (y2q (rd_op (y33q rfl) (rd_op (y43q (k := 0) M108 rfl rfl (y11q.g_Op r105)) (rd_op (y20q rfl rfl i_eql) (y10q (y6q ?_))))))))
   refine y24q rfl (fun hc109 => ?_) (fun hc109 => ?_)
   ·replace hres := (ite_t hc109).symm.trans hres
    have hc109' := hc109
    try simp only [qa, qaD] at hc109'
    refine y2q (rd_op (y1q rfl) (rd_op (y33q rfl) (rd_op (y43q (k := 0) M108 rfl rfl (y11q.g_N r105)) (rd_op (y33q rfl) (rd_op (y43q (k := 0) M108 rfl rfl (y11q.g_W r105)) (rd_op (v := .agg [vi ((ix x0 x8_).N), vi ((ix x0 x8_).W)]) (ov_build (cs := [vi ((ix x0 x8_).N), vi ((ix x0 x8_).W)]) rfl rfl) (rd_op (v := .fs true [.agg [vi ((ix x0 x8_).N), vi ((ix x0 x8_).W)]]) (ov_bslice rfl (all_cons rfl all_nil)) ?_)))))))
    have r110 : (tSl y4q.t).R ([({ Header := (ix x0 x8_).N, Field := (ix x0 x8_).W } : y4q)] : List y4q) (.fs true [.agg [vi ((ix x0 x8_).N), vi ((ix x0 x8_).W)]]) := sl_fs ⟨rfl, trivial⟩ (by simp)
    obtain ⟨nw111, sr111, ar111⟩ := src_of (t := y4q.t) (h := h108) r110
    have f111 : fits (esE102.length + nw111.length) 16 = true := by rw [All2.length_eq qE102, All2.length_eq ar111]; (try simp only [List.length_cons, List.length_nil]); exact fits_of (by first | omega | (simp only [List.length_append, List.length_cons, List.length_nil]; omega)) (by first | omega | (simp only [List.length_append, List.length_cons, List.length_nil]; omega))
    refine rd_appW (k := 1) (es := esE102) (news := nw111) M108 rfl rfl rfl nE102 wrE102 sr111 f111 (fun a111 h111 n111 wr111 M111 => ?_)
    have q111 : All2 y4q.t.R (zE102 ++ ([({ Header := (ix x0 x8_).N, Field := (ix x0 x8_).W } : y4q)] : List y4q)) (esE102 ++ nw111) := All2.app qE102 ar111
    have hl111 : (zE102 ++ ([({ Header := (ix x0 x8_).N, Field := (ix x0 x8_).W } : y4q)] : List y4q)).length ≤ 4611686018427387904 := by rw [← All2.length_eq q111, List.length_append]; exact fits_len f111
    refine rd_op (y1q rfl) (y10q (y67q (y6q (y2q (rd_op (y20q rfl rfl i_add) (rd_op (y1q rfl) (y10q (y56q ?_))))))))
    have hbd := y58q r0
    have hinc : wr (x8_ + 1) = x8_ + 1 := wr_of (by omega) (by omega)
    rw [hinc]
    refine y37q ?_ (ih (x8_ + 1) (zE102 ++ ([({ Header := (ix x0 x8_).N, Field := (ix x0 x8_).W } : y4q)] : List y4q)) (esE102 ++ nw111) a111 q111 n111 wr111 hl111 (by omega) (by omega) (by first | omega | (simp only [List.length_append, List.length_cons, List.length_nil]; omega)) (by first | omega | (simp only [List.length_append, List.length_cons, List.length_nil]; omega)) _ (Mem.sub M111 (.cons _ (.cons_cons _ .slnil))) hres)
    exact ((y3q rfl (y3q rfl (y3q rfl (y3q rfl (y31q _))))))
   ·replace hres := (ite_f hc109).symm.trans hres
    have hc109' := hc109
    try simp only [qa, qaD] at hc109'
    refine y34q (y67q (y6q (y2q (rd_op (y20q rfl rfl i_add) (rd_op (y1q rfl) (y10q (y56q ?_)))))))
    have hbd := y58q r0
    have hinc : wr (x8_ + 1) = x8_ + 1 := wr_of (by omega) (by omega)
    rw [hinc]
    refine y37q ?_ (ih (x8_ + 1) zE102 esE102 aE102 qE102 nE102 wrE102 hlE102 (by omega) (by omega) (by first | omega | (simp only [List.length_append, List.length_cons, List.length_nil]; omega)) (by first | omega | (simp only [List.length_append, List.length_cons, List.length_nil]; omega)) _ (Mem.sub M108 (.cons _ (.cons_cons _ .slnil))) hres)
    exact ((y3q rfl (y3q rfl (y3q rfl (y3q rfl (y31q _))))))
  ·exfalso
   try simp only [qa, qaD] at hc104
   omega

theorem f21_ok {x0 : List y11q} {v0 : PV} (r0 : (tSl y11q.t).R x0 v0) (hb : x0.length ≤ 1000) : ∃ r, FnR Try.prog 21 [v0] r ∧ (tSl y4q.t).R (expr_Fields x0) r := by
 obtain ⟨res, hres⟩ : ∃ res, expr_Fields x0 = res := ⟨_, rfl⟩
 suffices H : RC Try.prog ac21 [] (QR Try.prog [(2, none)] (RF21 res)) (argE 0 [v0]) ⟨0, []⟩ by
  rw [hres]
  exact fnE text21 (by simp) H
 unfold expr_Fields at hres
 unfold ac21
 refine y7q (y2q (rd_op (v := nilS) (y1q rfl) (y10q (y6q (y7q (y2q (rd_op (v := nilS) (y1q rfl) (y10q ?_))))))))
 refine y6q (y7q (y7q (y2q (rd_op (y1q rfl) (rd_op (ov_bi rfl (y62q r0 Try.underlying32 _)) (rd_op (v := vi 0) (y1q rfl) (y10q (y6q ?_))))))))
 refine y42q ?_
 have M101 := mem_acc (sz := 2) (es := []) (Mem.nil ⟨0, []⟩) 58 (.inl ⟨none, rfl, rfl⟩) (by simp)
 refine y37q ?_ (expr_Fields_L1_ok (x0 := x0) (v0 := v0)  (r0 := r0) (hb := hb) ?_ (Int.toNat ((x0.length : Int) - 0)) 0 ([] : List y4q) ([] : List PV) nilS (show All2 y4q.t.R ([] : List y4q) [] from trivial) rfl (.inl rfl) (by first | decide | simp) rfl (by omega) (by first | omega | simp) (by first | omega | simp) _ (Mem.sub M101 (.cons_cons _ .slnil)) hres)
 ·exact ((y3q rfl (y3q rfl (y3q rfl (y3q rfl (y31q _))))))
 ·intro zE102_112 es112E102 a112E102 q112E102 n112E102 wr112E102 hl112E102 po112_0 h112 M112 hres
  refine px_blk (y6q (y7q (y75q (y39q (rd_op (y1q rfl) (y40q ?_))))))
  have M113 : Mem h112 [⟨a112E102, 58, 2, es112E102⟩] := (Mem.front (k := 0) M112 rfl)
  obtain ⟨y113, hw113, hres⟩ := y47q hres
  obtain ⟨vr113, h114, hX113, hZ113⟩ := f32033_ok (x0 := zE102_112) q112E102 n112E102 hl112E102 wr112E102 M113 (by first | assumption | omega | (rw [wr_of (by omega) (by omega)]; omega))
  rw [hw113] at hZ113
  obtain ⟨es113_p0, M114, qs113_p0, hs113_p0, wi113_p0, hr113⟩ := hZ113
  replace hr113 := hr113.symm; subst hr113
  refine y86q rfl rfl hX113 (rs_nil (y6q (y7q (y75q (y39q (rd_op (y1q rfl) (y40q ?_)))))))
  have M115 : Mem h114 [⟨a112E102, 58, 2, es113_p0⟩] := (Mem.front (k := 0) M114 rfl)
  obtain ⟨y115, hw115, hres⟩ := y47q hres
  obtain ⟨vr115, h117, hX115, hZ115⟩ := f36_ok (x0 := y113) qs113_p0 n112E102 hs113_p0 wi113_p0 M115 
  rw [hw115] at hZ115
  obtain ⟨as115_0, es115_0, M117, qs115_0, ns115_0, hs115_0, wi115_0, hr115⟩ := hZ115
  replace hr115 := hr115.symm; subst hr115
  refine y86q rfl rfl hX115 (y39q (rd_op (y1q rfl) (y40q (rs_nil (y6q ?_)))))
  obtain ⟨v118, d118, r118⟩ := own_sl (P := Try.prog) (k := 0) (t := y4q.t) M117 rfl ns115_0 qs115_0 (Nat.le_trans hs115_0 (by decide))
  subst hres
  exact y35q (.tmp rfl .nil) d118 r118

def RF37 (a0 : PV) (R_ : List Ent) (res : List Int) (r : PV) (h : Heap) : Prop := ∃ es : List PV, Mem h (⟨a0, 3, 1, es⟩ :: R_) ∧ All2 tI.R res es ∧ res.length ≤ 4611686018427387904 ∧ Wri a0 es ∧ r = .tup []
theorem f37_ok {x0 : List Int} {a0 : PV} {es0 : List PV} {R_ : List Ent} {h_ : Heap} (q : All2 tI.R x0 es0) (ne : isL a0 = true) (hl : x0.length ≤ 4611686018427387904) (wi : Wri a0 es0) (M : Mem h_ (⟨a0, 3, 1, es0⟩ :: R_)) (hb : x0.length ≤ 1000000) : ∃ r h2_, FnX Try.prog 37 [a0] h_ r h2_ ∧ RF37 a0 R_ (y61q x0) r h2_ := by
 obtain ⟨r, h2, X, es', M2, q2, w2, hr⟩ := sort_int_X text37.enters Go.Proofs.Try.sortI_calls Go.Proofs.Try.sortI_none q ne hb wi M
 exact ⟨r, h2, X, es', M2, q2, by rw [y61q, List.length_mergeSort]; exact hl, w2, hr⟩

theorem f38_ok {x0 : List Int} {a0 : PV} {es0 : List PV} {R_ : List Ent} {h_ : Heap} (q : All2 tI.R x0 es0) (ne : isL a0 = true) (hl : x0.length ≤ 4611686018427387904) (wi : Wri a0 es0) (M : Mem h_ (⟨a0, 3, 1, es0⟩ :: R_)) : ∃ r h2_, FnX Try.prog 38 [a0] h_ r h2_ ∧ RF38 R_ (y103q x0) r h2_ := f38_cpt q ne hl wi M

/-- patchbay/expr.Headers -/
def RF22 (res : (List Int)) (r : PV) : Prop := (tSl tI).R res r
theorem expr_Headers_L1_ok {S : List Fr} {res : (List Int)} {x0 : List y11q} {v0 : PV} (r0 : (tSl y11q.t).R x0 v0) (hb : x0.length ≤ 1000) {K0 : (List Int) → (List Int)}
  (hK0 : ∀ (zE102 : List Int) (esE102 : List PV) (aE102 : PV) (qE102 : All2 tI.R zE102 esE102) (nE102 : isL aE102 = true) (wrE102 : Wri aE102 esE102) (hlE102 : zE102.length ≤ 4611686018427387904) (po0 : zE102.length ≤ 1000) (h : Heap) (M0 : Mem h [⟨aE102, 3, 1, esE102⟩]), K0 zE102 = res → PX Try.prog 0 S (QR Try.prog [(2, none)] (RF22 res)) [(3, aE102)] h) :
  ∀ (m : Nat) (x8_ : Int) (zE102 : List Int) (esE102 : List PV) (aE102 : PV) (qE102 : All2 tI.R zE102 esE102) (nE102 : isL aE102 = true) (wrE102 : Wri aE102 esE102) (hlE102 : zE102.length ≤ 4611686018427387904) (hm1 : m = Int.toNat ((x0.length : Int) - x8_)) (hlo1 : 0 ≤ x8_) (iv1_0 : (zE102.length : Int) ≤ x8_) (iv1_1 : x8_ ≤ (x0.length : Int)) (h : Heap) (M0 : Mem h [⟨aE102, 3, 1, esE102⟩]), expr_Headers_L1 x0 K0 m x8_ zE102 = res → RC Try.prog (.loop ac22_L1) S (QR Try.prog [(2, none)] (RF22 res)) [(8, vi x8_), (7, vi (x0.length : Int)), (6, v0), (3, aE102)] h := by
 have hb' := hb
 try simp only [qa, qaD] at hb'
 intro m
 induction m with
 | zero =>
  intro x8_ zE102 esE102 aE102 qE102 nE102 wrE102 hlE102 hm1 hlo1 iv1_0 iv1_1 h M0 hres
  rw [expr_Headers_L1] at hres
  refine y53q ?_
  unfold ac22_L1
  refine y7q (y2q (rd_op (y20q rfl rfl i_lss) (y10q (y6q (y7q ?_)))))
  refine y24q rfl (fun hc103 => ?_) (fun hc103 => ?_)
  ·exfalso
   try simp only [qa, qaD] at hc103
   omega
  ·have hend := hres
   have hc103' := hc103
   try simp only [qa, qaD] at hc103'
   refine y93q (px_seq (y78q ?_))
   exact y96q ((y3q rfl (y31q _))) (hK0 zE102 esE102 aE102 qE102 nE102 wrE102 hlE102 (by omega) _ (Mem.sub M0 (.cons_cons _ .slnil)) hres)
 | succ m ih =>
  intro x8_ zE102 esE102 aE102 qE102 nE102 wrE102 hlE102 hm1 hlo1 iv1_0 iv1_1 h M0 hres
  rw [expr_Headers_L1] at hres
  refine y53q ?_
  unfold ac22_L1
  refine y7q (y2q (rd_op (y20q rfl rfl i_lss) (y10q (y6q (y7q ?_)))))
  refine y24q rfl (fun hc104 => ?_) (fun hc104 => ?_)
  ·have hgo := hres
   have hc104' := hc104
   try simp only [qa, qaD] at hc104'
   refine y34q (y6q (y7q (y42q (y7q (y2q ?_)))))
   obtain ⟨v105, e105, r105⟩ := y106q (i := x8_) r0 (by omega) (by omega)
   refine rd_op (y48q rfl rfl e105) (rd_op (y19q rfl (TR.cnt y11q.t r105) (TR.agg y11q.t r105)) ?_)
   refine y94q (x := .agg [vi 0, vi 0, vi 0]) M0 rfl rfl (fun i106 w106 h106 M106 => ?_)
   refine y89q (k := 0) (v := v105) M106 rfl rfl rfl (TR.cnt y11q.t r105) (fun h108 M108 => ?_)
   replace M108 : Mem h108 [⟨.op i106 w106 0, 64, 3, [v105]⟩, ⟨aE102, 3, 1, esE102⟩] := M108
   refine y10q (y6q (y7q (y2q (rd_op (y33q rfl) (rd_op (y43q (k := 0) M108 rfl rfl (y11q.g_Op r105)) (rd_op (y20q rfl rfl i_eql) (y10q (y6q ?_))))))))
   refine y24q rfl (fun hc109 => ?_) (fun hc109 => ?_)
   ·replace hres := (ite_t hc109).symm.trans hres
    have hc109' := hc109
    try simp only [qa, qaD] at hc109'
    refine y2q (rd_op (y1q rfl) (rd_op (y33q rfl) (rd_op (y43q (k := 0) M108 rfl rfl (y11q.g_N r105)) (rd_op (v := .fs true [vi ((ix x0 x8_).N)]) (ov_bslice rfl (all_cons rfl all_nil)) ?_))))
    have r110 : (tSl tI).R ([(ix x0 x8_).N] : List Int) (.fs true [vi ((ix x0 x8_).N)]) := sl_fs ⟨rfl, trivial⟩ (by simp)
    obtain ⟨nw111, sr111, ar111⟩ := src_of (t := tI) (h := h108) r110
    have f111 : fits (esE102.length + nw111.length) 8 = true := by rw [All2.length_eq qE102, All2.length_eq ar111]; (try simp only [List.length_cons, List.length_nil]); exact fits_of (by first | omega | (simp only [List.length_append, List.length_cons, List.length_nil]; omega)) (by first | omega | (simp only [List.length_append, List.length_cons, List.length_nil]; omega))
    refine rd_appW (k := 1) (es := esE102) (news := nw111) M108 rfl rfl rfl nE102 wrE102 sr111 f111 (fun a111 h111 n111 wr111 M111 => ?_)
    have q111 : All2 tI.R (zE102 ++ ([(ix x0 x8_).N] : List Int)) (esE102 ++ nw111) := All2.app qE102 ar111
    have hl111 : (zE102 ++ ([(ix x0 x8_).N] : List Int)).length ≤ 4611686018427387904 := by rw [← All2.length_eq q111, List.length_append]; exact fits_len f111
    refine rd_op (y1q rfl) (y10q (y67q (y6q (y2q (rd_op (y20q rfl rfl i_add) (rd_op (y1q rfl) (y10q (y56q ?_))))))))
    have hbd := y58q r0
    have hinc : wr (x8_ + 1) = x8_ + 1 := wr_of (by omega) (by omega)
    rw [hinc]
    refine y37q ?_ (ih (x8_ + 1) (zE102 ++ ([(ix x0 x8_).N] : List Int)) (esE102 ++ nw111) a111 q111 n111 wr111 hl111 (by omega) (by omega) (by first | omega | (simp only [List.length_append, List.length_cons, List.length_nil]; omega)) (by first | omega | (simp only [List.length_append, List.length_cons, List.length_nil]; omega)) _ (Mem.sub M111 (.cons _ (.cons_cons _ .slnil))) hres)
    exact ((y3q rfl (y3q rfl (y3q rfl (y3q rfl (y31q _))))))
   ·replace hres := (ite_f hc109).symm.trans hres
    have hc109' := hc109
    try simp only [qa, qaD] at hc109'
    refine y34q (y67q (y6q (y2q (rd_op (y20q rfl rfl i_add) (rd_op (y1q rfl) (y10q (y56q ?_)))))))
    have hbd := y58q r0
    have hinc : wr (x8_ + 1) = x8_ + 1 := wr_of (by omega) (by omega)
    rw [hinc]
    refine y37q ?_ (ih (x8_ + 1) zE102 esE102 aE102 qE102 nE102 wrE102 hlE102 (by omega) (by omega) (by first | omega | (simp only [List.length_append, List.length_cons, List.length_nil]; omega)) (by first | omega | (simp only [List.length_append, List.length_cons, List.length_nil]; omega)) _ (Mem.sub M108 (.cons _ (.cons_cons _ .slnil))) hres)
    exact ((y3q rfl (y3q rfl (y3q rfl (y3q rfl (y31q _))))))
  ·exfalso
   try simp only [qa, qaD] at hc104
   omega

theorem f22_ok {x0 : List y11q} {v0 : PV} (r0 : (tSl y11q.t).R x0 v0) (hb : x0.length ≤ 1000) : ∃ r, FnR Try.prog 22 [v0] r ∧ (tSl tI).R (expr_Headers x0) r := by
 obtain ⟨res, hres⟩ : ∃ res, expr_Headers x0 = res := ⟨_, rfl⟩
 suffices H : RC Try.prog ac22 [] (QR Try.prog [(2, none)] (RF22 res)) (argE 0 [v0]) ⟨0, []⟩ by
  rw [hres]
  exact fnE text22 (by simp) H
 unfold expr_Headers at hres
 unfold ac22
 refine y7q (y2q (rd_op (v := nilS) (y1q rfl) (y10q (y6q (y7q (y2q (rd_op (v := nilS) (y1q rfl) (y10q ?_))))))))
 refine y6q (y7q (y7q (y2q (rd_op (y1q rfl) (rd_op (ov_bi rfl (y62q r0 Try.underlying32 _)) (rd_op (v := vi 0) (y1q rfl) (y10q (y6q ?_))))))))
 refine y42q ?_
 have M101 := mem_acc (sz := 1) (es := []) (Mem.nil ⟨0, []⟩) 3 (.inl ⟨none, rfl, rfl⟩) (by simp)
 refine y37q ?_ (expr_Headers_L1_ok (x0 := x0) (v0 := v0)  (r0 := r0) (hb := hb) ?_ (Int.toNat ((x0.length : Int) - 0)) 0 ([] : List Int) ([] : List PV) nilS (show All2 tI.R ([] : List Int) [] from trivial) rfl (.inl rfl) (by first | decide | simp) rfl (by omega) (by first | omega | simp) (by first | omega | simp) _ (Mem.sub M101 (.cons_cons _ .slnil)) hres)
 ·exact ((y3q rfl (y3q rfl (y3q rfl (y3q rfl (y31q _))))))
 ·intro zE102_112 es112E102 a112E102 q112E102 n112E102 wr112E102 hl112E102 po112_0 h112 M112 hres
  refine px_blk (y6q (y7q (y75q (y39q (rd_op (y1q rfl) (y40q ?_))))))
  have M113 : Mem h112 [⟨a112E102, 3, 1, es112E102⟩] := (Mem.front (k := 0) M112 rfl)
  obtain ⟨y113, hw113, hres⟩ := y47q hres
  obtain ⟨vr113, h114, hX113, hZ113⟩ := f37_ok (x0 := zE102_112) q112E102 n112E102 hl112E102 wr112E102 M113 (by first | assumption | omega | (rw [wr_of (by omega) (by omega)]; omega))
  rw [hw113] at hZ113
  obtain ⟨es113_p0, M114, qs113_p0, hs113_p0, wi113_p0, hr113⟩ := hZ113
  replace hr113 := hr113.symm; subst hr113
  refine y86q rfl rfl hX113 (rs_nil (y6q (y7q (y75q (y39q (rd_op (y1q rfl) (y40q ?_)))))))
  have M115 : Mem h114 [⟨a112E102, 3, 1, es113_p0⟩] := (Mem.front (k := 0) M114 rfl)
  obtain ⟨y115, hw115, hres⟩ := y47q hres
  obtain ⟨vr115, h117, hX115, hZ115⟩ := f38_ok (x0 := y113) qs113_p0 n112E102 hs113_p0 wi113_p0 M115 
  rw [hw115] at hZ115
  obtain ⟨as115_0, es115_0, M117, qs115_0, ns115_0, hs115_0, wi115_0, hr115⟩ := hZ115
  replace hr115 := hr115.symm; subst hr115
  refine y86q rfl rfl hX115 (y39q (rd_op (y1q rfl) (y40q (rs_nil (y6q ?_)))))
  obtain ⟨v118, d118, r118⟩ := own_sl (P := Try.prog) (k := 0) (t := tI) M117 rfl ns115_0 qs115_0 (Nat.le_trans hs115_0 (by decide))
  subst hres
  exact y35q (.tmp rfl .nil) d118 r118

/-- (*patchbay/access.collector).add$1 -/
def RF31 (i1_ w1_ : Nat) (R_ : List Ent) (res : y9q) (r : PV) (h : Heap) : Prop := ∃ uF0H : PV, ∃ uF0M : PV, ∃ uF0R : PV, ∃ uF0A : PV, ∃ uF0T : PV, ∃ uF0S : PV, ∃ uF0C : PV, ∃ uF0D : PV, ∃ aF0_8 : PV, ∃ esF0_8 : List PV, Mem h (⟨.op i1_ w1_ 0, 70, 10, [.agg [vs res.p.Name, uF0H, uF0M, uF0R, uF0A, uF0T, uF0S, uF0C, uF0D, aF0_8]]⟩ :: ⟨aF0_8, 3, 1, esF0_8⟩ :: R_) ∧ ((tSl y21q.t).R res.p.Headers uF0H) ∧ ((tSl y14q.t).R res.p.Metadata uF0M) ∧ ((tSl y27q.t).R res.p.Registers uF0R) ∧ ((tSl y23q.t).R res.p.Actions uF0A) ∧ ((tSl y26q.t).R res.p.Tables uF0T) ∧ ((tSl y16q.t).R res.p.States uF0S) ∧ ((tSl y8q.t).R res.p.Control uF0C) ∧ ((tSl tI).R res.p.Deparser uF0D) ∧ (All2 tI.R res.cells esF0_8) ∧ (isL aF0_8 = true) ∧ (res.cells.length ≤ 4611686018427387904) ∧ (Wri aF0_8 esF0_8) ∧ r = .tup []
theorem f31_ok {x0 : Int} {c0 : y9q} {u1_H : PV} {u1_M : PV} {u1_R : PV} {u1_A : PV} {u1_T : PV} {u1_S : PV} {u1_C : PV} {u1_D : PV} {a1__8 : PV} {es1__8 : List PV} {R_ : List Ent} {h_ : Heap} {i1_ w1_ : Nat} (ru1_H : (tSl y21q.t).R c0.p.Headers u1_H) (ru1_M : (tSl y14q.t).R c0.p.Metadata u1_M) (ru1_R : (tSl y27q.t).R c0.p.Registers u1_R) (ru1_A : (tSl y23q.t).R c0.p.Actions u1_A) (ru1_T : (tSl y26q.t).R c0.p.Tables u1_T) (ru1_S : (tSl y16q.t).R c0.p.States u1_S) (ru1_C : (tSl y8q.t).R c0.p.Control u1_C) (ru1_D : (tSl tI).R c0.p.Deparser u1_D) (qs1__8 : All2 tI.R c0.cells es1__8) (ne1__8 : isL a1__8 = true) (hl1__8 : c0.cells.length ≤ 4611686018427387904) (wi1__9 : Wri a1__8 es1__8) (M_ : Mem h_ (⟨.op i1_ w1_ 0, 70, 10, [.agg [vs c0.p.Name, u1_H, u1_M, u1_R, u1_A, u1_T, u1_S, u1_C, u1_D, a1__8]]⟩ :: ⟨a1__8, 3, 1, es1__8⟩ :: R_)) (hb : c0.cells.length ≤ 1000000) : ∃ r h2_, FnX Try.prog 31 [vi x0, .fp (.op i1_ w1_ 0)] h_ r h2_ ∧ RF31 i1_ w1_ R_ (y65q x0 c0) r h2_ := by
 obtain ⟨res, hres⟩ : ∃ res, y65q x0 c0 = res := ⟨_, rfl⟩
 suffices H : RC Try.prog ac31 [] (retPost Try.prog [] (RF31 i1_ w1_ R_ res)) (argE 0 [vi x0, .fp (.op i1_ w1_ 0)]) h_ by
  rw [hres]
  exact fnX text31 (by simp) H
 unfold y65q at hres
 unfold ac31
 refine y7q (y2q (rd_op (y1q rfl) (rd_op (y20q rfl rfl i_geq) (y10q (y6q ?_)))))
 refine y24q rfl (fun hc103 => ?_) (fun hc103 => ?_)
 ·replace hres := (ite_t hc103).symm.trans hres
  have hc103' := hc103
  try simp only [qa, qaD] at hc103'
  refine y2q (rd_op (y19q rfl rfl rfl) (rd_op (y19q rfl rfl rfl) (rd_op (y97q rfl rfl) (rd_op (y33q rfl) (rd_op (y43q (k := 0) M_ rfl rfl (mk1 (y82q (k := 1) M_ rfl ne1__8).2)) (rd_op (y1q rfl) (rd_op (v := .fs true [vi x0]) (ov_bslice rfl (all_cons rfl all_nil)) ?_)))))))
  have r104 : (tSl tI).R ([x0] : List Int) (.fs true [vi x0]) := sl_fs ⟨rfl, trivial⟩ (by simp)
  obtain ⟨nw105, sr105, ar105⟩ := src_of (t := tI) (h := h_) r104
  have f105 : fits (es1__8.length + nw105.length) 8 = true := by rw [All2.length_eq qs1__8, All2.length_eq ar105]; (try simp only [List.length_cons, List.length_nil]); exact fits_of (by first | omega | (simp only [List.length_append, List.length_cons, List.length_nil]; omega)) (by first | omega | (simp only [List.length_append, List.length_cons, List.length_nil]; omega))
  refine rd_appW (k := 1) (es := es1__8) (news := nw105) M_ rfl rfl rfl ne1__8 wi1__9 sr105 f105 (fun a105 h105 n105 wr105 M105 => ?_)
  have q105 : All2 tI.R (c0.cells ++ ([x0] : List Int)) (es1__8 ++ nw105) := All2.app qs1__8 ar105
  have hl105 : (c0.cells ++ ([x0] : List Int)).length ≤ 4611686018427387904 := by rw [← All2.length_eq q105, List.length_append]; exact fits_len f105
  refine rd_op (y97q rfl rfl) (rd_op (y33q rfl) ?_)
  refine rd_storeF (k := 0) (v := a105) M105 rfl rfl rfl (y82q (k := 1) M105 rfl n105).1 rfl (by first | decide | (simp only [List.length_cons, List.length_nil]; omega) | simp) (fun h106 M106 => ?_)
  replace M106 : Mem h106 (⟨.op i1_ w1_ 0, 70, 10, [.agg [vs c0.p.Name, u1_H, u1_M, u1_R, u1_A, u1_T, u1_S, u1_C, u1_D, a105]]⟩ :: ⟨a105, 3, 1, (es1__8 ++ nw105)⟩ :: R_) := M106
  refine y10q ?_
  have MZ107 : Mem h106 (⟨.op i1_ w1_ 0, 70, 10, [.agg [vs c0.p.Name, u1_H, u1_M, u1_R, u1_A, u1_T, u1_S, u1_C, u1_D, a105]]⟩ :: ⟨a105, 3, 1, (es1__8 ++ nw105)⟩ :: R_) := (Mem.front (k := 1) (Mem.front (k := 1) M106 rfl) rfl)
  subst hres
  exact pn_endX .nil ⟨u1_H, u1_M, u1_R, u1_A, u1_T, u1_S, u1_C, u1_D, a105, (es1__8 ++ nw105), Mem.sub MZ107 (.cons_cons _ (.cons_cons _ (List.Sublist.refl R_))), ru1_H, ru1_M, ru1_R, ru1_A, ru1_T, ru1_S, ru1_C, ru1_D, q105, n105, hl105, wr105, rfl⟩
 ·replace hres := (ite_f hc103).symm.trans hres
  have hc103' := hc103
  try simp only [qa, qaD] at hc103'
  refine y34q ?_
  have MZ108 : Mem h_ (⟨.op i1_ w1_ 0, 70, 10, [.agg [vs c0.p.Name, u1_H, u1_M, u1_R, u1_A, u1_T, u1_S, u1_C, u1_D, a1__8]]⟩ :: ⟨a1__8, 3, 1, es1__8⟩ :: R_) := (Mem.front (k := 1) (Mem.front (k := 1) M_ rfl) rfl)
  subst hres
  exact pn_endX .nil ⟨u1_H, u1_M, u1_R, u1_A, u1_T, u1_S, u1_C, u1_D, a1__8, es1__8, Mem.sub MZ108 (.cons_cons _ (.cons_cons _ (List.Sublist.refl R_))), ru1_H, ru1_M, ru1_R, ru1_A, ru1_T, ru1_S, ru1_C, ru1_D, qs1__8, ne1__8, hl1__8, wi1__9, rfl⟩

/-- patchbay/access.counts -/
def RF42 (res : (List Int)) (r : PV) : Prop := (tAr 4 tI).R res r
theorem access_counts_L1_ok {S : List Fr} {res : (List Int)} {x0 : y5q} {v110 : PV} {i101 : Nat} {w101 : Nat} {i107 : Nat} {w107 : Nat} (r110 : (tSl y21q.t).R x0.Headers v110) {K0 : (List Int) → (List Int)}
  (hK0 : ∀ (zE108 : List Int) (uE108 : PV) (qE108 : (tAr 4 tI).R zE108 uE108) (h : Heap) (M0 : Mem h [⟨.op i107 w107 0, 104, 4, [uE108]⟩, ⟨.op i101 w101 0, 104, 4, [.agg [vi 0, vi 0, vi 0, vi 0]]⟩]), K0 zE108 = res → PX Try.prog 0 S (QR Try.prog [(2, some (4, true))] (RF42 res)) [(2, .op i101 w101 0), (3, .op i107 w107 0)] h) :
  ∀ (m : Nat) (x19_ : Int) (zE108 : List Int) (uE108 : PV) (qE108 : (tAr 4 tI).R zE108 uE108) (hm1 : m = Int.toNat ((x0.Headers.length : Int) - x19_)) (hlo1 : 0 ≤ x19_) (h : Heap) (M0 : Mem h [⟨.op i107 w107 0, 104, 4, [uE108]⟩, ⟨.op i101 w101 0, 104, 4, [.agg [vi 0, vi 0, vi 0, vi 0]]⟩]), access_counts_L1 x0 K0 m x19_ zE108 = res → RC Try.prog (.loop ac42_L1) S (QR Try.prog [(2, some (4, true))] (RF42 res)) [(19, vi x19_), (18, vi (x0.Headers.length : Int)), (17, v110), (3, .op i107 w107 0), (2, .op i101 w101 0)] h := by
 intro m
 induction m with
 | zero =>
  intro x19_ zE108 uE108 qE108 hm1 hlo1 h M0 hres
  rw [access_counts_L1] at hres
  refine y53q ?_
  unfold ac42_L1
  refine y7q (y2q (rd_op (y20q rfl rfl i_lss) (y10q (y6q (y7q ?_)))))
  refine y24q rfl (fun hc112 => ?_) (fun hc112 => ?_)
  ·exfalso
   try simp only [qa, qaD] at hc112
   omega
  ·have hend := hres
   have hc112' := hc112
   try simp only [qa, qaD] at hc112'
   refine y93q (px_seq (y78q ?_))
   exact y96q ((y3q rfl (y3q rfl (y31q _)))) (hK0 zE108 uE108 (show (tAr 4 tI).R zE108 uE108 from qE108) _ (Mem.sub M0 (.cons_cons _ (.cons_cons _ .slnil))) hres)
 | succ m ih =>
  intro x19_ zE108 uE108 qE108 hm1 hlo1 h M0 hres
  rw [access_counts_L1] at hres
  refine y53q ?_
  unfold ac42_L1
  refine y7q (y2q (rd_op (y20q rfl rfl i_lss) (y10q (y6q (y7q ?_)))))
  refine y24q rfl (fun hc113 => ?_) (fun hc113 => ?_)
  ·have hgo := hres
   have hc113' := hc113
   try simp only [qa, qaD] at hc113'
   refine y34q (y6q (y7q (y42q (y7q (y2q ?_)))))
   obtain ⟨v114, e114, r114⟩ := y106q (i := x19_) r110 (by omega) (by omega)
   refine rd_op (y48q rfl rfl e114) (rd_op (y19q rfl (TR.cnt y21q.t r114) (TR.agg y21q.t r114)) ?_)
   refine y94q (x := .agg [vs [], nilS]) M0 rfl rfl (fun i115 w115 h115 M115 => ?_)
   refine y89q (k := 0) (v := v114) M115 rfl rfl rfl (TR.cnt y21q.t r114) (fun h117 M117 => ?_)
   replace M117 : Mem h117 [⟨.op i115 w115 0, 45, 2, [v114]⟩, ⟨.op i107 w107 0, 104, 4, [uE108]⟩, ⟨.op i101 w101 0, 104, 4, [.agg [vi 0, vi 0, vi 0, vi 0]]⟩] := M117
   refine y10q (y6q (y2q ?_))
   have h0_118 : 0 ≤ (0 : Int) := by omega
   have h1_118 : (0 : Int) < 4 := by omega
   refine rd_op (ov_iaddrAO rfl rfl h0_118 h1_118) ?_
   obtain ⟨v119, e119, r119⟩ := arr_load (t := tI) (i := (0 : Int)) qE108 h0_118 h1_118
   have r119 : v119 = vi (ix zE108 (0 : Int)) := r119; subst r119
   refine rd_op (y43q (k := 1) M117 rfl rfl e119) (rd_op (y33q rfl) ?_)
   obtain ⟨v120, e120, r120⟩ := y21q.g_Fields r114
   refine rd_op (y43q (k := 0) M117 rfl rfl e120) (rd_op (ov_bi rfl (y62q r120 Try.underlying23 _)) (rd_op (y20q rfl rfl i_add) ?_))
   have h0_121 : 0 ≤ (0 : Int) := by omega
   have h1_121 : (0 : Int) < 4 := by omega
   refine rd_op (ov_iaddrAO rfl rfl h0_121 h1_121) ?_
   obtain ⟨cs122, ec122, ln122, sr122⟩ := arr_store (t := tI) (i := (0 : Int)) qE108 h0_121 h1_121 (show tI.R (wr ((ix zE108 (0 : Int)) + (((ix x0.Headers x19_).Fields).length : Int))) (vi (wr ((ix zE108 (0 : Int)) + (((ix x0.Headers x19_).Fields).length : Int)))) from rfl) rfl
   refine rd_storeFA (k := 1) (v := vi (wr ((ix zE108 (0 : Int)) + (((ix x0.Headers x19_).Fields).length : Int)))) M117 rfl rfl rfl ec122 rfl ln122.1 ln122.2 (fun h122 M122 => ?_)
   replace M122 : Mem h122 [⟨.op i115 w115 0, 45, 2, [v114]⟩, ⟨.op i107 w107 0, 104, 4, [.agg (spl cs122 ((0 : Int).toNat * 1) [vi (wr ((ix zE108 (0 : Int)) + (((ix x0.Headers x19_).Fields).length : Int)))])]⟩, ⟨.op i101 w101 0, 104, 4, [.agg [vi 0, vi 0, vi 0, vi 0]]⟩] := M122
   refine y10q (y67q (y6q (y2q (rd_op (y20q rfl rfl i_add) (rd_op (y1q rfl) (y10q (y56q ?_)))))))
   have hbd := y58q r110
   have hinc : wr (x19_ + 1) = x19_ + 1 := wr_of (by omega) (by omega)
   rw [hinc]
   refine y37q ?_ (ih (x19_ + 1) (zE108.set (0 : Int).toNat (wr ((ix zE108 (0 : Int)) + (((ix x0.Headers x19_).Fields).length : Int)))) (.agg (spl cs122 ((0 : Int).toNat * 1) [vi (wr ((ix zE108 (0 : Int)) + (((ix x0.Headers x19_).Fields).length : Int)))])) (show (tAr 4 tI).R (zE108.set (0 : Int).toNat (wr ((ix zE108 (0 : Int)) + (((ix x0.Headers x19_).Fields).length : Int)))) (.agg (spl cs122 ((0 : Int).toNat * 1) [vi (wr ((ix zE108 (0 : Int)) + (((ix x0.Headers x19_).Fields).length : Int)))])) from sr122) (by omega) (by omega) _ (Mem.sub M122 (.cons _ (.cons_cons _ (.cons_cons _ .slnil)))) hres)
   exact ((y3q rfl (y3q rfl (y3q rfl (y3q rfl (y3q rfl (y31q _)))))))
  ·exfalso
   try simp only [qa, qaD] at hc113
   omega

theorem f42_ok {x0 : y5q} {v0 : PV} (r0 : y5q.t.R x0 v0) : ∃ r, FnR Try.prog 42 [v0] r ∧ (tAr 4 tI).R (y108q x0) r := by
 obtain ⟨res, hres⟩ : ∃ res, y108q x0 = res := ⟨_, rfl⟩
 suffices H : RC Try.prog ac42 [] (QR Try.prog [(2, some (4, true))] (RF42 res)) (argE 0 [v0]) ⟨0, []⟩ by
  rw [hres]
  exact fnE text42 (by simp) H
 unfold y108q at hres
 unfold ac42
 refine y7q (y2q (rd_op (y102q rfl (TR.cnt y5q.t r0)) ?_))
 refine y94q (x := .agg [vi 0, vi 0, vi 0, vi 0]) (Mem.nil ⟨0, []⟩) rfl rfl (fun i101 w101 h101 M101 => ?_)
 refine y10q (y6q (y7q (y2q ?_)))
 obtain ⟨v103, e103, r103⟩ := y5q.g_Headers r0
 refine rd_op (y22q rfl e103) (rd_op (y19q rfl (TR.cnt (tSl y21q.t) r103) (TR.agg (tSl y21q.t) r103)) (rd_op (ov_bi rfl (y62q r103 Try.underlying22 _)) ?_))
 obtain ⟨v104, e104, r104⟩ := y5q.g_Metadata r0
 refine rd_op (y22q rfl e104) (rd_op (y19q rfl (TR.cnt (tSl y14q.t) r104) (TR.agg (tSl y14q.t) r104)) (rd_op (ov_bi rfl (y62q r104 Try.underlying23 _)) ?_))
 obtain ⟨v105, e105, r105⟩ := y5q.g_Registers r0
 refine rd_op (y22q rfl e105) (rd_op (y19q rfl (TR.cnt (tSl y27q.t) r105) (TR.agg (tSl y27q.t) r105)) (rd_op (ov_bi rfl (y62q r105 Try.underlying24 _)) ?_))
 have r106 : (tAr 4 tI).R ([0, (x0.Headers.length : Int), (x0.Metadata.length : Int), (x0.Registers.length : Int)] : List Int) (.agg [vi 0, vi (x0.Headers.length : Int), vi (x0.Metadata.length : Int), vi (x0.Registers.length : Int)]) := ⟨rfl, [vi 0, vi (x0.Headers.length : Int), vi (x0.Metadata.length : Int), vi (x0.Registers.length : Int)], [vi 0, vi (x0.Headers.length : Int), vi (x0.Metadata.length : Int), vi (x0.Registers.length : Int)], ⟨rfl, ⟨rfl, ⟨rfl, ⟨rfl, trivial⟩⟩⟩⟩, rfl, rfl⟩
 refine rd_op (v := .agg [vi 0, vi (x0.Headers.length : Int), vi (x0.Metadata.length : Int), vi (x0.Registers.length : Int)]) (ov_build (cs := [vi 0, vi (x0.Headers.length : Int), vi (x0.Metadata.length : Int), vi (x0.Registers.length : Int)]) rfl rfl) ?_
 refine y94q (x := .agg [vi 0, vi 0, vi 0, vi 0]) M101 rfl rfl (fun i107 w107 h107 M107 => ?_)
 refine y89q (k := 0) (v := .agg [vi 0, vi (x0.Headers.length : Int), vi (x0.Metadata.length : Int), vi (x0.Registers.length : Int)]) M107 rfl rfl rfl (TR.cnt (tAr 4 tI) r106) (fun h109 M109 => ?_)
 replace M109 : Mem h109 [⟨.op i107 w107 0, 104, 4, [.agg [vi 0, vi (x0.Headers.length : Int), vi (x0.Metadata.length : Int), vi (x0.Registers.length : Int)]]⟩, ⟨.op i101 w101 0, 104, 4, [.agg [vi 0, vi 0, vi 0, vi 0]]⟩] := M109
 refine y10q (y6q (y7q (y7q (y2q ?_))))
 obtain ⟨v110, e110, r110⟩ := y5q.g_Headers r0
 refine rd_op (y22q rfl e110) (rd_op (y19q rfl (TR.cnt (tSl y21q.t) r110) (TR.agg (tSl y21q.t) r110)) (rd_op (ov_bi rfl (y62q r110 Try.underlying22 _)) (rd_op (v := vi 0) (y1q rfl) (y10q (y6q (y42q ?_))))))
 have r111 : (tAr 4 tI).R ([0, 0, 0, 0] : List Int) (.agg [vi 0, vi 0, vi 0, vi 0]) := ⟨rfl, [vi 0, vi 0, vi 0, vi 0], [vi 0, vi 0, vi 0, vi 0], ⟨rfl, ⟨rfl, ⟨rfl, ⟨rfl, trivial⟩⟩⟩⟩, rfl, rfl⟩
 refine y37q ?_ (access_counts_L1_ok (x0 := x0) (v110 := v110) (i101 := i101) (w101 := w101) (i107 := i107) (w107 := w107) (r110 := r110) ?_ (Int.toNat ((x0.Headers.length : Int) - 0)) 0 ([0, (x0.Headers.length : Int), (x0.Metadata.length : Int), (x0.Registers.length : Int)] : List Int) (.agg [vi 0, vi (x0.Headers.length : Int), vi (x0.Metadata.length : Int), vi (x0.Registers.length : Int)]) (show (tAr 4 tI).R ([0, (x0.Headers.length : Int), (x0.Metadata.length : Int), (x0.Registers.length : Int)] : List Int) (.agg [vi 0, vi (x0.Headers.length : Int), vi (x0.Metadata.length : Int), vi (x0.Registers.length : Int)]) from r106) rfl (by omega) _ (Mem.sub M109 (.cons_cons _ (.cons_cons _ .slnil))) hres)
 ·exact ((y3q rfl (y3q rfl (y3q rfl (y3q rfl (y3q rfl (y31q _)))))))
 ·intro zE108_123 u123E108 q123E108 h123 M123 hres
  refine px_blk (y6q (y7q (y2q (rd_op (ov_load0 (k := 0) M123 rfl rfl (TR.agg (tAr 4 tI) q123E108)) ?_))))
  refine y89q (k := 1) (v := u123E108) M123 rfl rfl rfl (TR.cnt (tAr 4 tI) q123E108) (fun h124 M124 => ?_)
  replace M124 : Mem h124 [⟨.op i107 w107 0, 104, 4, [u123E108]⟩, ⟨.op i101 w101 0, 104, 4, [u123E108]⟩] := M124
  refine y10q (y6q ?_)
  subst hres
  exact y35q (.cell rfl (load_whole (k := 1) M124 rfl (TR.agg (tAr 4 tI) q123E108)) .nil) (y17q (TR.clo (tAr 4 tI) q123E108)) q123E108

/-- patchbay/access.first -/
def RF26 (res : Int) (r : PV) : Prop := r = vi res
theorem access_first_L1_ok {S : List Fr} {res : Int} {x0 : y5q} {x1 : Int} {y101 : (List Int)} {v102 : PV} (hw101 : y108q x0 = y101) (r102 : (tAr 4 tI).R y101 v102) {K0 : Int → Int}
  (hK0 : ∀ (x5_ : Int), K0 x5_ = res → PX Try.prog 0 S (QR Try.prog [(4, none)] (RF26 res)) [(5, vi x5_)] ⟨0, []⟩) :
  ∀ (m : Nat) (x5_ : Int) (x10_ : Int) (hm1 : m = Int.toNat (4 - x10_)) (hlo1 : 0 ≤ x10_), access_first_L1 x1 y101 K0 m x5_ x10_ = res → RC Try.prog (.loop ac26_L1) S (QR Try.prog [(4, none)] (RF26 res)) [(10, vi x10_), (9, v102), (5, vi x5_), (1, vi x1)] ⟨0, []⟩ := by
 intro m
 induction m with
 | zero =>
  intro x5_ x10_ hm1 hlo1 hres
  rw [access_first_L1] at hres
  refine y53q ?_
  unfold ac26_L1
  refine y7q (y2q (rd_op (y20q rfl rfl i_lss) (y10q (y6q (y7q ?_)))))
  refine y24q rfl (fun hc103 => ?_) (fun hc103 => ?_)
  ·exfalso
   try simp only [qa, qaD] at hc103
   omega
  ·have hend := hres
   have hc103' := hc103
   try simp only [qa, qaD] at hc103'
   refine y93q (px_seq (y78q ?_))
   exact y96q ((y3q rfl (y31q _))) (hK0 x5_ hres)
 | succ m ih =>
  intro x5_ x10_ hm1 hlo1 hres
  rw [access_first_L1] at hres
  refine y53q ?_
  unfold ac26_L1
  refine y7q (y2q (rd_op (y20q rfl rfl i_lss) (y10q (y6q (y7q ?_)))))
  refine y24q rfl (fun hc104 => ?_) (fun hc104 => ?_)
  ·have hgo := hres
   have hc104' := hc104
   try simp only [qa, qaD] at hc104'
   refine y34q (y6q (y7q (y42q (y7q (y2q (rd_op (y1q rfl) ?_))))))
   obtain ⟨v105, e105, r105⟩ := arr_idx (t := tI) r102 (i := x10_) (by omega) (by omega)
   have r105 : v105 = vi (ix y101 x10_) := r105; subst r105
   refine rd_op (ov_indexA rfl rfl e105) (rd_op (y1q rfl) (rd_op (y1q rfl) (y10q (y6q (y7q (y2q (rd_op (y1q rfl) (rd_op (y1q rfl) ?_))))))))
   refine rd_op (y20q rfl rfl i_lss) (y10q (y6q ?_))
   refine y24q rfl (fun hc106 => ?_) (fun hc106 => ?_)
   ·replace hres := (ite_t hc106).symm.trans hres
    have hc106' := hc106
    try simp only [qa, qaD] at hc106'
    refine y2q (rd_op (y1q rfl) (rd_op (y1q rfl) (rd_op (y20q rfl rfl i_add) (rd_op (y1q rfl) (y10q (y67q (y6q (y2q ?_))))))))
    refine rd_op (y20q rfl rfl i_add) (rd_op (y1q rfl) (y10q (y56q ?_)))
    have hinc : wr (x10_ + 1) = x10_ + 1 := wr_of (by omega) (by omega)
    rw [hinc]
    refine y37q ?_ (ih (wr (x5_ + (ix y101 x10_))) (x10_ + 1)  (by omega) (by omega) hres)
    exact ((y3q rfl (y3q rfl (y3q rfl (y3q rfl (y31q _))))))
   ·replace hres := (ite_f hc106).symm.trans hres
    have hc106' := hc106
    try simp only [qa, qaD] at hc106'
    refine y34q (y67q (y6q (y2q (rd_op (y20q rfl rfl i_add) (rd_op (y1q rfl) (y10q (y56q ?_)))))))
    have hinc : wr (x10_ + 1) = x10_ + 1 := wr_of (by omega) (by omega)
    rw [hinc]
    refine y37q ?_ (ih x5_ (x10_ + 1)  (by omega) (by omega) hres)
    exact ((y3q rfl (y3q rfl (y3q rfl (y3q rfl (y31q _))))))
  ·exfalso
   try simp only [qa, qaD] at hc104
   omega

theorem f26_ok {x0 : y5q} {x1 : Int} {v0 : PV} (r0 : y5q.t.R x0 v0) : FnR Try.prog 26 [v0, vi x1] (vi (access_first x0 x1)) := by
 obtain ⟨res, hres⟩ : ∃ res, access_first x0 x1 = res := ⟨_, rfl⟩
 suffices H : RC Try.prog ac26 [] (QR Try.prog [(4, none)] (RF26 res)) (argE 0 [v0, vi x1]) ⟨0, []⟩ by
  obtain ⟨r, h1, h2⟩ := fnE text26 (by simp) H
  rw [hres]
  have h2 : r = vi res := h2
  rw [← h2]; exact h1
 unfold access_first at hres
 unfold ac26
 refine y7q (y2q (rd_op (y102q rfl (TR.cnt y5q.t r0)) (rd_op (v := vi 0) (y1q rfl) (y10q (y6q (y7q (y2q (rd_op (v := vi 0) (y1q rfl) ?_))))))))
 refine y10q (y6q (y7q (y7q (y2q (rd_op (y19q rfl (TR.cnt y5q.t r0) (TR.agg y5q.t r0)) ?_)))))
 obtain ⟨y101, hw101, hres⟩ := y47q hres
 obtain ⟨v102, f101, r102⟩ := f42_ok  r0 
 rw [hw101] at r102
 refine y52q (cv_fn rfl rfl (y15q (TR.clo y5q.t r0) y36q) f101) (rd_op (v := vi 0) (y1q rfl) (y10q (y6q (y42q ?_))))
 refine y37q ?_ (access_first_L1_ok (x0 := x0) (x1 := x1) (y101 := y101) (v102 := v102)  (hw101 := hw101) (r102 := r102) ?_ (Int.toNat (4 - 0)) 0 0 rfl (by omega) hres)
 ·exact ((y3q rfl (y3q rfl (y3q rfl (y3q rfl (y31q _))))))
 ·intro x5_107 hres
  refine px_blk (y6q (y7q (y2q (rd_op (y1q rfl) (rd_op (y1q rfl) (y10q (y6q ?_)))))))
  subst hres
  exact y35q (.tmp rfl .nil) (y17q rfl) rfl

/-- patchbay/access.cell -/
def RF29 (res : Int) (r : PV) : Prop := r = vi res
theorem f29_ok {x0 : y5q} {x1 : Int} {x2 : Int} {v0 : PV} (r0 : y5q.t.R x0 v0) (hk : 0 ≤ x1 ∧ x1 ≤ 3) : FnR Try.prog 29 [v0, vi x1, vi x2] (vi (access_cell x0 x1 x2)) := by
 obtain ⟨res, hres⟩ : ∃ res, access_cell x0 x1 x2 = res := ⟨_, rfl⟩
 suffices H : RC Try.prog ac29 [] (QR Try.prog [(6, none)] (RF29 res)) (argE 0 [v0, vi x1, vi x2]) ⟨0, []⟩ by
  obtain ⟨r, h1, h2⟩ := fnE text29 (by simp) H
  rw [hres]
  have h2 : r = vi res := h2
  rw [← h2]; exact h1
 unfold access_cell at hres
 unfold ac29
 refine y7q (y2q (rd_op (y102q rfl (TR.cnt y5q.t r0)) (rd_op (v := vi 0) (y1q rfl) (y10q (y6q (y7q (y7q (y2q ?_))))))))
 refine rd_op (y1q rfl) (rd_op (y20q rfl rfl i_lss) (rd_op (y1q rfl) ?_))
 refine y63q (d := 16) (v := vb ((decide (x2 < 0)) || (decide ((ix (y108q x0) x1) ≤ x2)))) ?_ ?_
 ·intro S Q r
  simp only [ac29_G1, List.cons_append, List.nil_append, List.append_assoc]
  cases hb101 : (decide (x2 < 0))
  ·intro k
   have hb101' := hb101
   try simp only [qa, qaD] at hb101'
   refine y18q rfl rfl (y1q rfl) (y18q rfl rfl (y19q rfl (TR.cnt y5q.t r0) (TR.agg y5q.t r0)) ?_)
   obtain ⟨v103, f102, r103⟩ := f42_ok  r0 
   refine rd_ycall rfl rfl (cv_fn rfl rfl (y15q (TR.clo y5q.t r0) y36q) f102) (y18q rfl rfl (y1q rfl) ?_)
   obtain ⟨v104, e104, r104⟩ := arr_idx (t := tI) r103 (i := x1) (by omega) (by omega)
   have r104 : v104 = vi (ix (y108q x0) x1) := r104; subst r104
   refine y18q rfl rfl (ov_indexA rfl rfl e104) (y18q rfl rfl (y20q rfl rfl i_geq) (rd_op (v := vb (decide ((ix (y108q x0) x1) ≤ x2))) (y30q rfl rfl rfl rfl) ?_))
   exact y29q (y3q rfl (y0q rfl (y0q rfl (y0q rfl (y0q rfl (y0q rfl (y0q rfl (y0q rfl (y25q _))))))))) k
  ·intro k
   refine y12q rfl rfl (y12q rfl rfl (y12q rfl rfl (y12q rfl rfl (y12q rfl rfl (y12q rfl rfl (rd_op (v := vb true) (y30q rfl rfl rfl rfl) ?_))))))
   exact y29q (y3q rfl (y0q rfl (y0q rfl (y0q rfl (y0q rfl (y0q rfl (y0q rfl (y0q rfl (y25q _))))))))) k
 refine y10q (y6q ?_)
 refine y24q rfl (fun hc105 => ?_) (fun hc105 => ?_)
 ·replace hres := (ite_t hc105).symm.trans hres
  have hc105' := hc105
  try simp only [qa, qaD] at hc105'
  refine y7q (y2q (rd_op (v := vi (-1)) (y1q rfl) (y10q (y6q ?_))))
  subst hres
  exact y35q (.tmp rfl .nil) (y17q rfl) rfl
 ·replace hres := (ite_f hc105).symm.trans hres
  have hc105' := hc105
  try simp only [qa, qaD] at hc105'
  refine y34q (y6q (y7q (y2q (rd_op (y19q rfl (TR.cnt y5q.t r0) (TR.agg y5q.t r0)) (rd_op (y1q rfl) ?_)))))
  obtain ⟨y106, hw106, hres⟩ := y47q hres
  have f106 := f26_ok (x1 := x1) r0 
  rw [hw106] at f106
  refine y52q (cv_fn rfl rfl (y15q (TR.clo y5q.t r0) (y15q rfl y36q)) f106) (rd_op (y1q rfl) (rd_op (y20q rfl rfl i_add) (rd_op (y1q rfl) (y10q (y6q ?_)))))
  subst hres
  exact y35q (.tmp rfl .nil) (y17q rfl) rfl

/-- patchbay/access.FieldCell -/
def RF15 (res : Int) (r : PV) : Prop := r = vi res
theorem access_FieldCell_L1_ok {S : List Fr} {res : Int} {x0 : y5q} {x1 : y4q} {v112 : PV} (hc101 : (decide (x1.Header = (-1))) = false) (hc110 : ((((decide (x1.Header < 0)) || (decide ((x0.Headers.length : Int) ≤ x1.Header))) || (decide (x1.Field < 0))) || (decide ((((ix x0.Headers x1.Header).Fields).length : Int) ≤ x1.Field))) = false) (hl112 : ((sub x0.Headers 0 x1.Header).length : Int) = x1.Header - 0) (r112 : (tSl y21q.t).R (sub x0.Headers 0 x1.Header) v112) {K0 : Int → Int}
  (hK0 : ∀ (x5_ : Int) (h : Heap) (M0 : Mem h []), K0 x5_ = res → PX Try.prog 0 S (QR Try.prog [(4, none)] (RF15 res)) [(5, vi x5_)] h) :
  ∀ (m : Nat) (x5_ : Int) (x52_ : Int) (hm1 : m = Int.toNat (((sub x0.Headers 0 x1.Header).length : Int) - x52_)) (hlo1 : 0 ≤ x52_) (h : Heap) (M0 : Mem h []), y90q x0 x1 K0 m x5_ x52_ = res → RC Try.prog (.loop ac15_L1) S (QR Try.prog [(4, none)] (RF15 res)) [(52, vi x52_), (51, vi ((sub x0.Headers 0 x1.Header).length : Int)), (50, v112), (5, vi x5_)] h := by
 have hc101' := hc101
 try simp only [qa, qaD] at hc101'
 have hc110' := hc110
 try simp only [qa, qaD] at hc110'
 intro m
 induction m with
 | zero =>
  intro x5_ x52_ hm1 hlo1 h M0 hres
  rw [y90q] at hres
  refine y53q ?_
  unfold ac15_L1
  refine y7q (y2q (rd_op (y20q rfl rfl i_lss) (y10q (y6q (y7q ?_)))))
  refine y24q rfl (fun hc113 => ?_) (fun hc113 => ?_)
  ·exfalso
   try simp only [qa, qaD] at hc113
   omega
  ·have hend := hres
   have hc113' := hc113
   try simp only [qa, qaD] at hc113'
   refine y93q (px_seq (y78q ?_))
   exact y96q ((y3q rfl (y31q _))) (hK0 x5_ _ (Mem.sub M0 .slnil) hres)
 | succ m ih =>
  intro x5_ x52_ hm1 hlo1 h M0 hres
  rw [y90q] at hres
  refine y53q ?_
  unfold ac15_L1
  refine y7q (y2q (rd_op (y20q rfl rfl i_lss) (y10q (y6q (y7q ?_)))))
  refine y24q rfl (fun hc114 => ?_) (fun hc114 => ?_)
  ·have hgo := hres
   have hc114' := hc114
   try simp only [qa, qaD] at hc114'
   refine y34q (y6q (y7q (y42q (y7q (y2q ?_)))))
   obtain ⟨v115, e115, r115⟩ := y106q (i := x52_) r112 (by omega) (by omega)
   refine rd_op (y48q rfl rfl e115) (rd_op (y19q rfl (TR.cnt y21q.t r115) (TR.agg y21q.t r115)) ?_)
   refine y94q (x := .agg [vs [], nilS]) M0 rfl rfl (fun i116 w116 h116 M116 => ?_)
   refine y89q (k := 0) (v := v115) M116 rfl rfl rfl (TR.cnt y21q.t r115) (fun h118 M118 => ?_)
   replace M118 : Mem h118 [⟨.op i116 w116 0, 45, 2, [v115]⟩] := M118
   refine y10q (y6q (y2q (rd_op (y1q rfl) (rd_op (y33q rfl) ?_))))
   obtain ⟨v119, e119, r119⟩ := y21q.g_Fields r115
   refine rd_op (y43q (k := 0) M118 rfl rfl e119) (rd_op (ov_bi rfl (y62q r119 Try.underlying23 _)) (rd_op (y20q rfl rfl i_add) (rd_op (y1q rfl) (y10q (y67q (y6q (y2q (rd_op (y20q rfl rfl i_add) ?_))))))))
   refine rd_op (y1q rfl) (y10q (y56q ?_))
   have hbd := y58q r112
   have hinc : wr (x52_ + 1) = x52_ + 1 := wr_of (by omega) (by omega)
   rw [hinc]
   refine y37q ?_ (ih (wr (x5_ + (((ix (sub x0.Headers 0 x1.Header) x52_).Fields).length : Int))) (x52_ + 1)  (by omega) (by omega) _ (Mem.sub M118 (.cons _ .slnil)) hres)
   exact ((y3q rfl (y3q rfl (y3q rfl (y3q rfl (y31q _))))))
  ·exfalso
   try simp only [qa, qaD] at hc114
   omega

theorem f15_ok {x0 : y5q} {x1 : y4q} {v0 : PV} {v1 : PV} (r0 : y5q.t.R x0 v0) (r1 : y4q.t.R x1 v1) : FnR Try.prog 15 [v0, v1] (vi (y99q x0 x1)) := by
 obtain ⟨res, hres⟩ : ∃ res, y99q x0 x1 = res := ⟨_, rfl⟩
 suffices H : RC Try.prog ac15 [] (QR Try.prog [(4, none)] (RF15 res)) (argE 0 [v0, v1]) ⟨0, []⟩ by
  obtain ⟨r, h1, h2⟩ := fnE text15 (by simp) H
  rw [hres]
  have h2 : r = vi res := h2
  rw [← h2]; exact h1
 unfold y99q at hres
 unfold ac15
 refine y7q (y2q (rd_op (y102q rfl (TR.cnt y5q.t r0)) (rd_op (y102q rfl (TR.cnt y4q.t r1)) (rd_op (v := vi 0) (y1q rfl) (y10q (y6q (y7q (y7q ?_))))))))
 refine y2q (rd_op (y22q rfl (y4q.g_Header r1)) (rd_op (y19q rfl rfl rfl) (rd_op (y20q rfl rfl i_eql) (y10q (y6q ?_)))))
 refine y24q rfl (fun hc101 => ?_) (fun hc101 => ?_)
 ·replace hres := (ite_t hc101).symm.trans hres
  have hc101' := hc101
  try simp only [qa, qaD] at hc101'
  refine y7q (y2q (rd_op (y19q rfl (TR.cnt y5q.t r0) (TR.agg y5q.t r0)) (rd_op (y22q rfl (y4q.g_Field r1)) (rd_op (y19q rfl rfl rfl) ?_))))
  obtain ⟨y102, hw102, hres⟩ := y47q hres
  have f102 := f29_ok (x1 := 2) (x2 := x1.Field) r0 (by first | assumption | omega | (rw [wr_of (by omega) (by omega)]; omega))
  rw [hw102] at f102
  refine y52q (cv_fn rfl rfl (y15q (TR.clo y5q.t r0) (y15q rfl (y15q rfl y36q))) f102) (rd_op (y1q rfl) (y10q (y6q ?_)))
  subst hres
  exact y35q (.tmp rfl .nil) (y17q rfl) rfl
 ·replace hres := (ite_f hc101).symm.trans hres
  have hc101' := hc101
  try simp only [qa, qaD] at hc101'
  refine y34q (y6q (y7q (y7q (y2q (rd_op (y22q rfl (y4q.g_Header r1)) (rd_op (y19q rfl rfl rfl) (rd_op (y20q rfl rfl i_lss) (rd_op (y1q rfl) ?_))))))))
  refine y63q (d := 25) (v := vb ((decide (x1.Header < 0)) || (decide ((x0.Headers.length : Int) ≤ x1.Header)))) ?_ ?_
  ·intro S Q r
   simp only [ac15_G1, List.cons_append, List.nil_append, List.append_assoc]
   cases hb103 : (decide (x1.Header < 0))
   ·intro k
    have hb103' := hb103
    try simp only [qa, qaD] at hb103'
    refine y18q rfl rfl (y22q rfl (y4q.g_Header r1)) (y18q rfl rfl (y19q rfl rfl rfl) ?_)
    obtain ⟨v104, e104, r104⟩ := y5q.g_Headers r0
    refine y18q rfl rfl (y22q rfl e104) (y18q rfl rfl (y19q rfl (TR.cnt (tSl y21q.t) r104) (TR.agg (tSl y21q.t) r104)) (y18q rfl rfl (ov_bi rfl (y62q r104 Try.underlying22 _)) (y18q rfl rfl (y20q rfl rfl i_geq) (rd_op (v := vb (decide ((x0.Headers.length : Int) ≤ x1.Header))) (y30q rfl rfl rfl rfl) ?_))))
    exact y29q (y3q rfl (y0q rfl (y0q rfl (y0q rfl (y0q rfl (y0q rfl (y0q rfl (y0q rfl (y25q _))))))))) k
   ·intro k
    refine y12q rfl rfl (y12q rfl rfl (y12q rfl rfl (y12q rfl rfl (y12q rfl rfl (y12q rfl rfl (rd_op (v := vb true) (y30q rfl rfl rfl rfl) ?_))))))
    exact y29q (y3q rfl (y0q rfl (y0q rfl (y0q rfl (y0q rfl (y0q rfl (y0q rfl (y0q rfl (y25q _))))))))) k
  refine rd_op (y1q rfl) ?_
  refine y63q (d := 30) (v := vb (((decide (x1.Header < 0)) || (decide ((x0.Headers.length : Int) ≤ x1.Header))) || (decide (x1.Field < 0)))) ?_ ?_
  ·intro S Q r
   simp only [ac15_G2, List.cons_append, List.nil_append, List.append_assoc]
   cases hb105 : ((decide (x1.Header < 0)) || (decide ((x0.Headers.length : Int) ≤ x1.Header)))
   ·intro k
    have hb105' := hb105
    try simp only [qa, qaD] at hb105'
    refine y18q rfl rfl (y22q rfl (y4q.g_Field r1)) (y18q rfl rfl (y19q rfl rfl rfl) (y18q rfl rfl (y20q rfl rfl i_lss) (rd_op (v := vb (decide (x1.Field < 0))) (y30q rfl rfl rfl rfl) ?_)))
    exact y29q (y3q rfl (y0q rfl (y0q rfl (y0q rfl (y0q rfl (y25q _)))))) k
   ·intro k
    refine y12q rfl rfl (y12q rfl rfl (y12q rfl rfl (rd_op (v := vb true) (y30q rfl rfl rfl rfl) ?_)))
    exact y29q (y3q rfl (y0q rfl (y0q rfl (y0q rfl (y0q rfl (y25q _)))))) k
  refine rd_op (y1q rfl) ?_
  refine y63q (d := 43) (v := vb ((((decide (x1.Header < 0)) || (decide ((x0.Headers.length : Int) ≤ x1.Header))) || (decide (x1.Field < 0))) || (decide ((((ix x0.Headers x1.Header).Fields).length : Int) ≤ x1.Field)))) ?_ ?_
  ·intro S Q r
   simp only [ac15_G3, List.cons_append, List.nil_append, List.append_assoc]
   cases hb106 : (((decide (x1.Header < 0)) || (decide ((x0.Headers.length : Int) ≤ x1.Header))) || (decide (x1.Field < 0)))
   ·intro k
    have hb106' := hb106
    try simp only [qa, qaD] at hb106'
    refine y18q rfl rfl (y22q rfl (y4q.g_Field r1)) (y18q rfl rfl (y19q rfl rfl rfl) ?_)
    obtain ⟨v107, e107, r107⟩ := y5q.g_Headers r0
    refine y18q rfl rfl (y22q rfl e107) (y18q rfl rfl (y19q rfl (TR.cnt (tSl y21q.t) r107) (TR.agg (tSl y21q.t) r107)) (y18q rfl rfl (y22q rfl (y4q.g_Header r1)) (y18q rfl rfl (y19q rfl rfl rfl) ?_)))
    obtain ⟨v108, e108, r108⟩ := y106q (i := x1.Header) r107 (by omega) (by omega)
    refine y18q rfl rfl (y48q rfl rfl e108) ?_
    obtain ⟨v109, e109, r109⟩ := y21q.g_Fields r108
    refine y18q rfl rfl (y22q rfl e109) (y18q rfl rfl (y19q rfl (TR.cnt (tSl y14q.t) r109) (TR.agg (tSl y14q.t) r109)) (y18q rfl rfl (ov_bi rfl (y62q r109 Try.underlying23 _)) (y18q rfl rfl (y20q rfl rfl i_geq) (rd_op (v := vb (decide ((((ix x0.Headers x1.Header).Fields).length : Int) ≤ x1.Field))) (y30q rfl rfl rfl rfl) ?_))))
    exact y29q (y3q rfl (y0q rfl (y0q rfl (y0q rfl (y0q rfl (y0q rfl (y0q rfl (y0q rfl (y0q rfl (y0q rfl (y0q rfl (y0q rfl (y0q rfl (y25q _)))))))))))))) k
   ·intro k
    refine y12q rfl rfl (y12q rfl rfl (y12q rfl rfl (y12q rfl rfl (y12q rfl rfl (y12q rfl rfl (y12q rfl rfl (y12q rfl rfl (y12q rfl rfl ?_))))))))
    refine y12q rfl rfl (y12q rfl rfl (rd_op (v := vb true) (y30q rfl rfl rfl rfl) ?_))
    exact y29q (y3q rfl (y0q rfl (y0q rfl (y0q rfl (y0q rfl (y0q rfl (y0q rfl (y0q rfl (y0q rfl (y0q rfl (y0q rfl (y0q rfl (y0q rfl (y25q _)))))))))))))) k
  refine y10q (y6q ?_)
  refine y24q rfl (fun hc110 => ?_) (fun hc110 => ?_)
  ·replace hres := (ite_t hc110).symm.trans hres
   have hc110' := hc110
   try simp only [qa, qaD] at hc110'
   refine y7q (y2q (rd_op (v := vi (-1)) (y1q rfl) (y10q (y6q ?_))))
   subst hres
   exact y35q (.tmp rfl .nil) (y17q rfl) rfl
  ·replace hres := (ite_f hc110).symm.trans hres
   have hc110' := hc110
   try simp only [qa, qaD] at hc110'
   refine y34q (y6q (y7q (y2q (rd_op (y22q rfl (y4q.g_Field r1)) (rd_op (y19q rfl rfl rfl) (rd_op (y1q rfl) (y10q (y6q ?_))))))))
   refine y7q (y7q (y2q ?_))
   obtain ⟨v111, e111, r111⟩ := y5q.g_Headers r0
   refine rd_op (y22q rfl e111) (rd_op (y19q rfl (TR.cnt (tSl y21q.t) r111) (TR.agg (tSl y21q.t) r111)) (rd_op (y22q rfl (y4q.g_Header r1)) (rd_op (y19q rfl rfl rfl) ?_)))
   obtain ⟨v112, e112, r112⟩ := sl_sub (P := Try.prog) (hf := false) (E := [(49, vi x1.Header), (48, .fp (vi x1.Header)), (47, v111), (46, .fp v111), (5, vi x1.Field), (45, vi x1.Field), (44, .fp (vi x1.Field)), (43, vb ((((decide (x1.Header < 0)) || (decide ((x0.Headers.length : Int) ≤ x1.Header))) || (decide (x1.Field < 0))) || (decide ((((ix x0.Headers x1.Header).Fields).length : Int) ≤ x1.Field)))), (31, vb (((decide (x1.Header < 0)) || (decide ((x0.Headers.length : Int) ≤ x1.Header))) || (decide (x1.Field < 0)))), (30, vb (((decide (x1.Header < 0)) || (decide ((x0.Headers.length : Int) ≤ x1.Header))) || (decide (x1.Field < 0)))), (26, vb ((decide (x1.Header < 0)) || (decide ((x0.Headers.length : Int) ≤ x1.Header)))), (25, vb ((decide (x1.Header < 0)) || (decide ((x0.Headers.length : Int) ≤ x1.Header)))), (18, vb (decide (x1.Header < 0))), (17, vb (decide (x1.Header < 0))), (16, vi x1.Header), (15, .fp (vi x1.Header)), (10, vb (decide (x1.Header = (-1)))), (9, vi x1.Header), (8, .fp (vi x1.Header)), (4, vi 0), (3, .fp v1), (2, .fp v0), (0, v0), (1, v1)]) (h := ⟨0, []⟩) (t := y21q.t) (tt := 22) (x := (.tmp 47)) (lo := none) (hi := (some (.tmp 49))) (a := 0) (b := x1.Header) r111 rfl rfl rfl (show 0 ≤ 0 by omega) (show 0 ≤ x1.Header by omega) (show x1.Header ≤ (x0.Headers.length : Int) by omega) (fun ad => by kernel_rfl)
   have hl112 := sub_len (l := x0.Headers) (show 0 ≤ 0 by omega) (show 0 ≤ x1.Header by omega) (show x1.Header ≤ (x0.Headers.length : Int) by omega)
   refine rd_op (v := v112) (e112) (rd_op (ov_bi rfl (y62q r112 Try.underlying22 _)) (rd_op (v := vi 0) (y1q rfl) (y10q (y6q (y42q ?_)))))
   refine y37q ?_ (access_FieldCell_L1_ok (x0 := x0) (x1 := x1) (v112 := v112)  (hc101 := hc101) (hc110 := hc110) (hl112 := hl112) (r112 := r112) ?_ (Int.toNat (((sub x0.Headers 0 x1.Header).length : Int) - 0)) x1.Field 0 rfl (by omega) _ (Mem.sub (Mem.nil ⟨0, []⟩) .slnil) hres)
   ·exact ((y3q rfl (y3q rfl (y3q rfl (y3q rfl (y31q _))))))
   ·intro x5_120 h120 M120 hres
    refine px_blk (y6q (y7q (y2q (rd_op (y1q rfl) (rd_op (y1q rfl) (y10q (y6q ?_)))))))
    subst hres
    exact y35q (.tmp rfl .nil) (y17q rfl) rfl

/-- patchbay/access.ValidCell -/
def RF16 (res : Int) (r : PV) : Prop := r = vi res
theorem f16_ok {x0 : y5q} {x1 : Int} {v0 : PV} (r0 : y5q.t.R x0 v0) : FnR Try.prog 16 [v0, vi x1] (vi (y98q x0 x1)) := by
 obtain ⟨res, hres⟩ : ∃ res, y98q x0 x1 = res := ⟨_, rfl⟩
 suffices H : RC Try.prog ac16 [] (QR Try.prog [(4, none)] (RF16 res)) (argE 0 [v0, vi x1]) ⟨0, []⟩ by
  obtain ⟨r, h1, h2⟩ := fnE text16 (by simp) H
  rw [hres]
  have h2 : r = vi res := h2
  rw [← h2]; exact h1
 unfold y98q at hres
 unfold ac16
 refine y7q (y2q (rd_op (y102q rfl (TR.cnt y5q.t r0)) (rd_op (v := vi 0) (y1q rfl) (y10q (y6q (y7q (y2q (rd_op (y19q rfl (TR.cnt y5q.t r0) (TR.agg y5q.t r0)) ?_))))))))
 refine rd_op (y1q rfl) ?_
 obtain ⟨y101, hw101, hres⟩ := y47q hres
 have f101 := f29_ok (x1 := 1) (x2 := x1) r0 (by first | assumption | omega | (rw [wr_of (by omega) (by omega)]; omega))
 rw [hw101] at f101
 refine y52q (cv_fn rfl rfl (y15q (TR.clo y5q.t r0) (y15q rfl (y15q rfl y36q))) f101) (rd_op (y1q rfl) (y10q (y6q ?_)))
 subst hres
 exact y35q (.tmp rfl .nil) (y17q rfl) rfl

/-- patchbay/access.RegisterCell -/
def RF17 (res : Int) (r : PV) : Prop := r = vi res
theorem f17_ok {x0 : y5q} {x1 : Int} {v0 : PV} (r0 : y5q.t.R x0 v0) : FnR Try.prog 17 [v0, vi x1] (vi (y80q x0 x1)) := by
 obtain ⟨res, hres⟩ : ∃ res, y80q x0 x1 = res := ⟨_, rfl⟩
 suffices H : RC Try.prog ac17 [] (QR Try.prog [(4, none)] (RF17 res)) (argE 0 [v0, vi x1]) ⟨0, []⟩ by
  obtain ⟨r, h1, h2⟩ := fnE text17 (by simp) H
  rw [hres]
  have h2 : r = vi res := h2
  rw [← h2]; exact h1
 unfold y80q at hres
 unfold ac17
 refine y7q (y2q (rd_op (y102q rfl (TR.cnt y5q.t r0)) (rd_op (v := vi 0) (y1q rfl) (y10q (y6q (y7q (y2q (rd_op (y19q rfl (TR.cnt y5q.t r0) (TR.agg y5q.t r0)) ?_))))))))
 refine rd_op (y1q rfl) ?_
 obtain ⟨y101, hw101, hres⟩ := y47q hres
 have f101 := f29_ok (x1 := 3) (x2 := x1) r0 (by first | assumption | omega | (rw [wr_of (by omega) (by omega)]; omega))
 rw [hw101] at f101
 refine y52q (cv_fn rfl rfl (y15q (TR.clo y5q.t r0) (y15q rfl (y15q rfl y36q))) f101) (rd_op (y1q rfl) (y10q (y6q ?_)))
 subst hres
 exact y35q (.tmp rfl .nil) (y17q rfl) rfl

/-- (*patchbay/access.collector).add -/
def RF20 (i0_ w0_ : Nat) (R_ : List Ent) (res : y9q) (r : PV) (h : Heap) : Prop := ∃ uF0H : PV, ∃ uF0M : PV, ∃ uF0R : PV, ∃ uF0A : PV, ∃ uF0T : PV, ∃ uF0S : PV, ∃ uF0C : PV, ∃ uF0D : PV, ∃ aF0_8 : PV, ∃ esF0_8 : List PV, Mem h (⟨.op i0_ w0_ 0, 70, 10, [.agg [vs res.p.Name, uF0H, uF0M, uF0R, uF0A, uF0T, uF0S, uF0C, uF0D, aF0_8]]⟩ :: ⟨aF0_8, 3, 1, esF0_8⟩ :: R_) ∧ ((tSl y21q.t).R res.p.Headers uF0H) ∧ ((tSl y14q.t).R res.p.Metadata uF0M) ∧ ((tSl y27q.t).R res.p.Registers uF0R) ∧ ((tSl y23q.t).R res.p.Actions uF0A) ∧ ((tSl y26q.t).R res.p.Tables uF0T) ∧ ((tSl y16q.t).R res.p.States uF0S) ∧ ((tSl y8q.t).R res.p.Control uF0C) ∧ ((tSl tI).R res.p.Deparser uF0D) ∧ (All2 tI.R res.cells esF0_8) ∧ (isL aF0_8 = true) ∧ (res.cells.length ≤ 4611686018427387904) ∧ (Wri aF0_8 esF0_8) ∧ r = .tup []
theorem __access_collector__add_L1_ok {S : List Fr} {res : y9q} {x0 : y9q} {x1 : List y4q} {x2 : List Int} {x3 : List Int} {v1 : PV} {v2 : PV} {v3 : PV} {R_ : List Ent} {u0_H : PV} {u0_M : PV} {u0_R : PV} {u0_A : PV} {u0_T : PV} {u0_S : PV} {u0_C : PV} {u0_D : PV} {a0__8 : PV} {es0__8 : List PV} {i0_ : Nat} {w0_ : Nat} (r1 : (tSl y4q.t).R x1 v1) (ru0_H : (tSl y21q.t).R x0.p.Headers u0_H) (ru0_M : (tSl y14q.t).R x0.p.Metadata u0_M) (ru0_R : (tSl y27q.t).R x0.p.Registers u0_R) (ru0_A : (tSl y23q.t).R x0.p.Actions u0_A) (ru0_T : (tSl y26q.t).R x0.p.Tables u0_T) (ru0_S : (tSl y16q.t).R x0.p.States u0_S) (ru0_C : (tSl y8q.t).R x0.p.Control u0_C) (ru0_D : (tSl tI).R x0.p.Deparser u0_D) (ne0__8 : isL a0__8 = true) (hl0__8 : x0.cells.length ≤ 4611686018427387904) (wi0__9 : Wri a0__8 es0__8) (hb : x0.cells.length + x1.length + x2.length + x3.length ≤ 1000000) {K0 : y9q → y9q}
  (hK0 : ∀ (zE1 : y9q) (uwE1H : PV) (uwE1M : PV) (uwE1R : PV) (uwE1A : PV) (uwE1T : PV) (uwE1S : PV) (uwE1C : PV) (uwE1D : PV) (awE1_8 : PV) (eswE1_8 : List PV) (ruwE1H : (tSl y21q.t).R zE1.p.Headers uwE1H) (ruwE1M : (tSl y14q.t).R zE1.p.Metadata uwE1M) (ruwE1R : (tSl y27q.t).R zE1.p.Registers uwE1R) (ruwE1A : (tSl y23q.t).R zE1.p.Actions uwE1A) (ruwE1T : (tSl y26q.t).R zE1.p.Tables uwE1T) (ruwE1S : (tSl y16q.t).R zE1.p.States uwE1S) (ruwE1C : (tSl y8q.t).R zE1.p.Control uwE1C) (ruwE1D : (tSl tI).R zE1.p.Deparser uwE1D) (qswE1_8 : All2 tI.R zE1.cells eswE1_8) (newE1_8 : isL awE1_8 = true) (hlwE1_8 : zE1.cells.length ≤ 4611686018427387904) (wiwE1_9 : Wri awE1_8 eswE1_8) (po0 : zE1.cells.length ≤ x0.cells.length + x1.length) (h : Heap) (M0 : Mem h (⟨.op i0_ w0_ 0, 70, 10, [.agg [vs zE1.p.Name, uwE1H, uwE1M, uwE1R, uwE1A, uwE1T, uwE1S, uwE1C, uwE1D, awE1_8]]⟩ :: ⟨awE1_8, 3, 1, eswE1_8⟩ :: R_)), K0 zE1 = res → PX Try.prog 0 S (retPost Try.prog [] (RF20 i0_ w0_ R_ res)) [(2, v2), (3, v3), (4, .fp (.op i0_ w0_ 0)), (8, .fn (.func 31) [] [.fp (.op i0_ w0_ 0)])] h) :
  ∀ (m : Nat) (x18_ : Int) (zE1 : y9q) (uwE1H : PV) (uwE1M : PV) (uwE1R : PV) (uwE1A : PV) (uwE1T : PV) (uwE1S : PV) (uwE1C : PV) (uwE1D : PV) (awE1_8 : PV) (eswE1_8 : List PV) (ruwE1H : (tSl y21q.t).R zE1.p.Headers uwE1H) (ruwE1M : (tSl y14q.t).R zE1.p.Metadata uwE1M) (ruwE1R : (tSl y27q.t).R zE1.p.Registers uwE1R) (ruwE1A : (tSl y23q.t).R zE1.p.Actions uwE1A) (ruwE1T : (tSl y26q.t).R zE1.p.Tables uwE1T) (ruwE1S : (tSl y16q.t).R zE1.p.States uwE1S) (ruwE1C : (tSl y8q.t).R zE1.p.Control uwE1C) (ruwE1D : (tSl tI).R zE1.p.Deparser uwE1D) (qswE1_8 : All2 tI.R zE1.cells eswE1_8) (newE1_8 : isL awE1_8 = true) (hlwE1_8 : zE1.cells.length ≤ 4611686018427387904) (wiwE1_9 : Wri awE1_8 eswE1_8) (hm1 : m = Int.toNat ((x1.length : Int) - x18_)) (hlo1 : 0 ≤ x18_) (iv1_0 : (zE1.cells.length : Int) ≤ (x0.cells.length : Int) + x18_) (iv1_1 : x18_ ≤ (x1.length : Int)) (h : Heap) (M0 : Mem h (⟨.op i0_ w0_ 0, 70, 10, [.agg [vs zE1.p.Name, uwE1H, uwE1M, uwE1R, uwE1A, uwE1T, uwE1S, uwE1C, uwE1D, awE1_8]]⟩ :: ⟨awE1_8, 3, 1, eswE1_8⟩ :: R_)), y69q x1 K0 m x18_ zE1 = res → RC Try.prog (.loop ac20_L1) S (retPost Try.prog [] (RF20 i0_ w0_ R_ res)) [(18, vi x18_), (17, vi (x1.length : Int)), (16, v1), (8, .fn (.func 31) [] [.fp (.op i0_ w0_ 0)]), (4, .fp (.op i0_ w0_ 0)), (3, v3), (2, v2)] h := by
 have hb' := hb
 try simp only [qa, qaD] at hb'
 intro m
 induction m with
 | zero =>
  intro x18_ zE1 uwE1H uwE1M uwE1R uwE1A uwE1T uwE1S uwE1C uwE1D awE1_8 eswE1_8 ruwE1H ruwE1M ruwE1R ruwE1A ruwE1T ruwE1S ruwE1C ruwE1D qswE1_8 newE1_8 hlwE1_8 wiwE1_9 hm1 hlo1 iv1_0 iv1_1 h M0 hres
  rw [y69q] at hres
  refine y53q ?_
  unfold ac20_L1
  refine y7q (y2q (rd_op (y20q rfl rfl i_lss) (y10q (y6q (y7q ?_)))))
  refine y24q rfl (fun hc101 => ?_) (fun hc101 => ?_)
  ·exfalso
   try simp only [qa, qaD] at hc101
   omega
  ·have hend := hres
   have hc101' := hc101
   try simp only [qa, qaD] at hc101'
   refine y93q (px_seq (y78q ?_))
   exact y96q ((y3q rfl (y3q rfl (y3q rfl (y3q rfl (y31q _)))))) (hK0 ({ p := zE1.p, cells := zE1.cells } : y9q) uwE1H uwE1M uwE1R uwE1A uwE1T uwE1S uwE1C uwE1D awE1_8 eswE1_8 (show (tSl y21q.t).R zE1.p.Headers uwE1H from ruwE1H) (show (tSl y14q.t).R zE1.p.Metadata uwE1M from ruwE1M) (show (tSl y27q.t).R zE1.p.Registers uwE1R from ruwE1R) (show (tSl y23q.t).R zE1.p.Actions uwE1A from ruwE1A) (show (tSl y26q.t).R zE1.p.Tables uwE1T from ruwE1T) (show (tSl y16q.t).R zE1.p.States uwE1S from ruwE1S) (show (tSl y8q.t).R zE1.p.Control uwE1C from ruwE1C) (show (tSl tI).R zE1.p.Deparser uwE1D from ruwE1D) qswE1_8 newE1_8 hlwE1_8 wiwE1_9 (by first | omega | ((try dsimp only); (try simp only [List.length_append, List.length_cons, List.length_nil]); omega) | simp) _ (Mem.sub M0 (.cons_cons _ (.cons_cons _ (List.Sublist.refl R_)))) hres)
 | succ m ih =>
  intro x18_ zE1 uwE1H uwE1M uwE1R uwE1A uwE1T uwE1S uwE1C uwE1D awE1_8 eswE1_8 ruwE1H ruwE1M ruwE1R ruwE1A ruwE1T ruwE1S ruwE1C ruwE1D qswE1_8 newE1_8 hlwE1_8 wiwE1_9 hm1 hlo1 iv1_0 iv1_1 h M0 hres
  rw [y69q] at hres
  refine y53q ?_
  unfold ac20_L1
  refine y7q (y2q (rd_op (y20q rfl rfl i_lss) (y10q (y6q (y7q ?_)))))
  refine y24q rfl (fun hc102 => ?_) (fun hc102 => ?_)
  ·have hgo := hres
   have hc102' := hc102
   try simp only [qa, qaD] at hc102'
   refine y34q (y6q (y7q (y42q (y7q (y2q ?_)))))
   obtain ⟨v103, e103, r103⟩ := y106q (i := x18_) r1 (by omega) (by omega)
   refine rd_op (y48q rfl rfl e103) (rd_op (y19q rfl (TR.cnt y4q.t r103) (TR.agg y4q.t r103)) ?_)
   refine y94q (x := .agg [vi 0, vi 0]) M0 rfl rfl (fun i104 w104 h104 M104 => ?_)
   refine y89q (k := 0) (v := v103) M104 rfl rfl rfl (TR.cnt y4q.t r103) (fun h106 M106 => ?_)
   replace M106 : Mem h106 (⟨.op i104 w104 0, 58, 2, [v103]⟩ :: ⟨.op i0_ w0_ 0, 70, 10, [.agg [vs zE1.p.Name, uwE1H, uwE1M, uwE1R, uwE1A, uwE1T, uwE1S, uwE1C, uwE1D, awE1_8]]⟩ :: ⟨awE1_8, 3, 1, eswE1_8⟩ :: R_) := M106
   refine y10q (y6q (rc_regionT (rd_op (y1q rfl) (rd_op (y19q rfl rfl rfl) (rd_op (y97q rfl rfl) (rd_op (y33q rfl) (rd_op (y43q (k := 1) M106 rfl rfl rfl) (rd_op (ov_load0 (k := 0) M106 rfl rfl (TR.agg y4q.t r103)) ?_))))))))
   obtain ⟨y107, hw107, hres⟩ := y47q hres
   have f107 := f15_ok  (show y5q.t.R zE1.p (.agg [vs zE1.p.Name, uwE1H, uwE1M, uwE1R, uwE1A, uwE1T, uwE1S, uwE1C, uwE1D]) from ⟨uwE1H, uwE1M, uwE1R, uwE1A, uwE1T, uwE1S, uwE1C, uwE1D, rfl, ruwE1H, ruwE1M, ruwE1R, ruwE1A, ruwE1T, ruwE1S, ruwE1C, ruwE1D⟩) r103 
   rw [hw107] at f107
   refine y52q (cv_fn rfl rfl (y15q (TR.clo y5q.t (show y5q.t.R zE1.p (.agg [vs zE1.p.Name, uwE1H, uwE1M, uwE1R, uwE1A, uwE1T, uwE1S, uwE1C, uwE1D]) from ⟨uwE1H, uwE1M, uwE1R, uwE1A, uwE1T, uwE1S, uwE1C, uwE1D, rfl, ruwE1H, ruwE1M, ruwE1R, ruwE1A, ruwE1T, ruwE1S, ruwE1C, ruwE1D⟩)) (y15q (TR.clo y4q.t r103) y36q)) f107) ?_
   refine y10q (pn_lastS ?_)
   have M108 : Mem h106 (⟨.op i0_ w0_ 0, 70, 10, [.agg [vs zE1.p.Name, uwE1H, uwE1M, uwE1R, uwE1A, uwE1T, uwE1S, uwE1C, uwE1D, awE1_8]]⟩ :: ⟨awE1_8, 3, 1, eswE1_8⟩ :: ⟨.op i104 w104 0, 58, 2, [v103]⟩ :: R_) := (Mem.front (k := 2) (Mem.front (k := 2) M106 rfl) rfl)
   obtain ⟨y108, hw108, hres⟩ := y47q hres
   obtain ⟨vr108, h109, hX108, hZ108⟩ := f31_ok (x0 := y107) (c0 := ({ p := zE1.p, cells := zE1.cells } : y9q)) ruwE1H ruwE1M ruwE1R ruwE1A ruwE1T ruwE1S ruwE1C ruwE1D qswE1_8 newE1_8 hlwE1_8 wiwE1_9 M108 (by first | assumption | omega | (rw [wr_of (by omega) (by omega)]; omega))
   rw [hw108] at hZ108
   obtain ⟨u108_0H, u108_0M, u108_0R, u108_0A, u108_0T, u108_0S, u108_0C, u108_0D, a108_0_8, es108_0_8, M109, ru108_0H, ru108_0M, ru108_0R, ru108_0A, ru108_0T, ru108_0S, ru108_0C, ru108_0D, qs108_0_8, ne108_0_8, hl108_0_8, wi108_0_9, hr108⟩ := hZ108
   replace hr108 := hr108.symm; subst hr108
   refine y86q rfl rfl hX108 ?_
   have ek108 := add1_len hw108; try dsimp only at ek108
   refine rs_nil (y67q (y6q (y2q (rd_op (y20q rfl rfl i_add) (rd_op (y1q rfl) (y10q (y56q ?_)))))))
   have hbd := y58q r1
   have hinc : wr (x18_ + 1) = x18_ + 1 := wr_of (by omega) (by omega)
   rw [hinc]
   refine y37q ?_ (ih (x18_ + 1) ({ p := y108.p, cells := y108.cells } : y9q) u108_0H u108_0M u108_0R u108_0A u108_0T u108_0S u108_0C u108_0D a108_0_8 es108_0_8 (show (tSl y21q.t).R y108.p.Headers u108_0H from ru108_0H) (show (tSl y14q.t).R y108.p.Metadata u108_0M from ru108_0M) (show (tSl y27q.t).R y108.p.Registers u108_0R from ru108_0R) (show (tSl y23q.t).R y108.p.Actions u108_0A from ru108_0A) (show (tSl y26q.t).R y108.p.Tables u108_0T from ru108_0T) (show (tSl y16q.t).R y108.p.States u108_0S from ru108_0S) (show (tSl y8q.t).R y108.p.Control u108_0C from ru108_0C) (show (tSl tI).R y108.p.Deparser u108_0D from ru108_0D) qs108_0_8 ne108_0_8 hl108_0_8 wi108_0_9 (by omega) (by omega) (by first | omega | ((try dsimp only); (try simp only [List.length_append, List.length_cons, List.length_nil]); omega) | simp) (by first | omega | ((try dsimp only); (try simp only [List.length_append, List.length_cons, List.length_nil]); omega) | simp) _ (Mem.sub M109 (.cons_cons _ (.cons_cons _ (.cons _ (List.Sublist.refl R_))))) hres)
   exact ((y3q rfl (y3q rfl (y3q rfl (y3q rfl (y3q rfl (y3q rfl (y3q rfl (y31q _)))))))))
  ·exfalso
   try simp only [qa, qaD] at hc102
   omega

theorem __access_collector__add_L2_ok {S : List Fr} {res : y9q} {x0 : y9q} {x1 : List y4q} {x2 : List Int} {x3 : List Int} {zE1_110 : y9q} {v2 : PV} {v3 : PV} {R_ : List Ent} {u0_H : PV} {u0_M : PV} {u0_R : PV} {u0_A : PV} {u0_T : PV} {u0_S : PV} {u0_C : PV} {u0_D : PV} {a0__8 : PV} {es0__8 : List PV} {uw110E1H : PV} {uw110E1M : PV} {uw110E1R : PV} {uw110E1A : PV} {uw110E1T : PV} {uw110E1S : PV} {uw110E1C : PV} {uw110E1D : PV} {aw110E1_8 : PV} {esw110E1_8 : List PV} {i0_ : Nat} {w0_ : Nat} (r2 : (tSl tI).R x2 v2) (ru0_H : (tSl y21q.t).R x0.p.Headers u0_H) (ru0_M : (tSl y14q.t).R x0.p.Metadata u0_M) (ru0_R : (tSl y27q.t).R x0.p.Registers u0_R) (ru0_A : (tSl y23q.t).R x0.p.Actions u0_A) (ru0_T : (tSl y26q.t).R x0.p.Tables u0_T) (ru0_S : (tSl y16q.t).R x0.p.States u0_S) (ru0_C : (tSl y8q.t).R x0.p.Control u0_C) (ru0_D : (tSl tI).R x0.p.Deparser u0_D) (ne0__8 : isL a0__8 = true) (hl0__8 : x0.cells.length ≤ 4611686018427387904) (wi0__9 : Wri a0__8 es0__8) (hb : x0.cells.length + x1.length + x2.length + x3.length ≤ 1000000) (ruw110E1H : (tSl y21q.t).R zE1_110.p.Headers uw110E1H) (ruw110E1M : (tSl y14q.t).R zE1_110.p.Metadata uw110E1M) (ruw110E1R : (tSl y27q.t).R zE1_110.p.Registers uw110E1R) (ruw110E1A : (tSl y23q.t).R zE1_110.p.Actions uw110E1A) (ruw110E1T : (tSl y26q.t).R zE1_110.p.Tables uw110E1T) (ruw110E1S : (tSl y16q.t).R zE1_110.p.States uw110E1S) (ruw110E1C : (tSl y8q.t).R zE1_110.p.Control uw110E1C) (ruw110E1D : (tSl tI).R zE1_110.p.Deparser uw110E1D) (new110E1_8 : isL aw110E1_8 = true) (hlw110E1_8 : zE1_110.cells.length ≤ 4611686018427387904) (wiw110E1_9 : Wri aw110E1_8 esw110E1_8) (po110_0 : zE1_110.cells.length ≤ x0.cells.length + x1.length) {K2 : y9q → y9q}
  (hK2 : ∀ (zE1 : y9q) (uwE1H : PV) (uwE1M : PV) (uwE1R : PV) (uwE1A : PV) (uwE1T : PV) (uwE1S : PV) (uwE1C : PV) (uwE1D : PV) (awE1_8 : PV) (eswE1_8 : List PV) (ruwE1H : (tSl y21q.t).R zE1.p.Headers uwE1H) (ruwE1M : (tSl y14q.t).R zE1.p.Metadata uwE1M) (ruwE1R : (tSl y27q.t).R zE1.p.Registers uwE1R) (ruwE1A : (tSl y23q.t).R zE1.p.Actions uwE1A) (ruwE1T : (tSl y26q.t).R zE1.p.Tables uwE1T) (ruwE1S : (tSl y16q.t).R zE1.p.States uwE1S) (ruwE1C : (tSl y8q.t).R zE1.p.Control uwE1C) (ruwE1D : (tSl tI).R zE1.p.Deparser uwE1D) (qswE1_8 : All2 tI.R zE1.cells eswE1_8) (newE1_8 : isL awE1_8 = true) (hlwE1_8 : zE1.cells.length ≤ 4611686018427387904) (wiwE1_9 : Wri awE1_8 eswE1_8) (po0 : zE1.cells.length ≤ x0.cells.length + x1.length + x2.length) (h : Heap) (M0 : Mem h (⟨.op i0_ w0_ 0, 70, 10, [.agg [vs zE1.p.Name, uwE1H, uwE1M, uwE1R, uwE1A, uwE1T, uwE1S, uwE1C, uwE1D, awE1_8]]⟩ :: ⟨awE1_8, 3, 1, eswE1_8⟩ :: R_)), K2 zE1 = res → PX Try.prog 2 S (retPost Try.prog [] (RF20 i0_ w0_ R_ res)) [(3, v3), (4, .fp (.op i0_ w0_ 0)), (8, .fn (.func 31) [] [.fp (.op i0_ w0_ 0)])] h) :
  ∀ (m : Nat) (x33_ : Int) (zE1 : y9q) (uwE1H : PV) (uwE1M : PV) (uwE1R : PV) (uwE1A : PV) (uwE1T : PV) (uwE1S : PV) (uwE1C : PV) (uwE1D : PV) (awE1_8 : PV) (eswE1_8 : List PV) (ruwE1H : (tSl y21q.t).R zE1.p.Headers uwE1H) (ruwE1M : (tSl y14q.t).R zE1.p.Metadata uwE1M) (ruwE1R : (tSl y27q.t).R zE1.p.Registers uwE1R) (ruwE1A : (tSl y23q.t).R zE1.p.Actions uwE1A) (ruwE1T : (tSl y26q.t).R zE1.p.Tables uwE1T) (ruwE1S : (tSl y16q.t).R zE1.p.States uwE1S) (ruwE1C : (tSl y8q.t).R zE1.p.Control uwE1C) (ruwE1D : (tSl tI).R zE1.p.Deparser uwE1D) (qswE1_8 : All2 tI.R zE1.cells eswE1_8) (newE1_8 : isL awE1_8 = true) (hlwE1_8 : zE1.cells.length ≤ 4611686018427387904) (wiwE1_9 : Wri awE1_8 eswE1_8) (hm2 : m = Int.toNat ((x2.length : Int) - x33_)) (hlo2 : 0 ≤ x33_) (iv2_0 : (zE1.cells.length : Int) ≤ (x0.cells.length + x1.length : Int) + x33_) (iv2_1 : x33_ ≤ (x2.length : Int)) (h : Heap) (M0 : Mem h (⟨.op i0_ w0_ 0, 70, 10, [.agg [vs zE1.p.Name, uwE1H, uwE1M, uwE1R, uwE1A, uwE1T, uwE1S, uwE1C, uwE1D, awE1_8]]⟩ :: ⟨awE1_8, 3, 1, eswE1_8⟩ :: R_)), y71q x2 K2 m x33_ zE1 = res → RC Try.prog (.loop ac20_L2) S (retPost Try.prog [] (RF20 i0_ w0_ R_ res)) [(33, vi x33_), (32, vi (x2.length : Int)), (31, v2), (8, .fn (.func 31) [] [.fp (.op i0_ w0_ 0)]), (4, .fp (.op i0_ w0_ 0)), (3, v3)] h := by
 have hb' := hb
 try simp only [qa, qaD] at hb'
 intro m
 induction m with
 | zero =>
  intro x33_ zE1 uwE1H uwE1M uwE1R uwE1A uwE1T uwE1S uwE1C uwE1D awE1_8 eswE1_8 ruwE1H ruwE1M ruwE1R ruwE1A ruwE1T ruwE1S ruwE1C ruwE1D qswE1_8 newE1_8 hlwE1_8 wiwE1_9 hm2 hlo2 iv2_0 iv2_1 h M0 hres
  rw [y71q] at hres
  refine y53q ?_
  unfold ac20_L2
  refine y7q (y2q (rd_op (y20q rfl rfl i_lss) (y10q (y6q (y7q ?_)))))
  refine y24q rfl (fun hc111 => ?_) (fun hc111 => ?_)
  ·exfalso
   try simp only [qa, qaD] at hc111
   omega
  ·have hend := hres
   have hc111' := hc111
   try simp only [qa, qaD] at hc111'
   refine y93q (px_seq (y78q ?_))
   exact y96q ((y3q rfl (y3q rfl (y3q rfl (y31q _))))) (hK2 ({ p := zE1.p, cells := zE1.cells } : y9q) uwE1H uwE1M uwE1R uwE1A uwE1T uwE1S uwE1C uwE1D awE1_8 eswE1_8 (show (tSl y21q.t).R zE1.p.Headers uwE1H from ruwE1H) (show (tSl y14q.t).R zE1.p.Metadata uwE1M from ruwE1M) (show (tSl y27q.t).R zE1.p.Registers uwE1R from ruwE1R) (show (tSl y23q.t).R zE1.p.Actions uwE1A from ruwE1A) (show (tSl y26q.t).R zE1.p.Tables uwE1T from ruwE1T) (show (tSl y16q.t).R zE1.p.States uwE1S from ruwE1S) (show (tSl y8q.t).R zE1.p.Control uwE1C from ruwE1C) (show (tSl tI).R zE1.p.Deparser uwE1D from ruwE1D) qswE1_8 newE1_8 hlwE1_8 wiwE1_9 (by first | omega | ((try dsimp only); (try simp only [List.length_append, List.length_cons, List.length_nil]); omega) | simp) _ (Mem.sub M0 (.cons_cons _ (.cons_cons _ (List.Sublist.refl R_)))) hres)
 | succ m ih =>
  intro x33_ zE1 uwE1H uwE1M uwE1R uwE1A uwE1T uwE1S uwE1C uwE1D awE1_8 eswE1_8 ruwE1H ruwE1M ruwE1R ruwE1A ruwE1T ruwE1S ruwE1C ruwE1D qswE1_8 newE1_8 hlwE1_8 wiwE1_9 hm2 hlo2 iv2_0 iv2_1 h M0 hres
  rw [y71q] at hres
  refine y53q ?_
  unfold ac20_L2
  refine y7q (y2q (rd_op (y20q rfl rfl i_lss) (y10q (y6q (y7q ?_)))))
  refine y24q rfl (fun hc112 => ?_) (fun hc112 => ?_)
  ·have hgo := hres
   have hc112' := hc112
   try simp only [qa, qaD] at hc112'
   refine y34q (y6q (y7q (y42q (y7q (y2q (rd_op (y48q rfl rfl (slI r2 (by omega) (by omega))) (rd_op (y19q rfl rfl rfl) (rd_op (y1q rfl) ?_))))))))
   refine y10q (y6q (y75q (y39q (rd_op (y1q rfl) (y40q (y39q (rd_op (y19q rfl rfl rfl) (y40q ?_))))))))
   refine y39q (rd_op (y97q rfl rfl) (y40q (y39q (rd_op (y33q rfl) (y40q (y39q (rd_op (y43q (k := 0) M0 rfl rfl rfl) (y40q ?_))))))))
   refine y39q (rd_op (y1q rfl) (y40q (y39q ?_)))
   obtain ⟨y114, hw114, hres⟩ := y47q hres
   have f114 := f16_ok (x1 := (ix x2 x33_)) (show y5q.t.R zE1.p (.agg [vs zE1.p.Name, uwE1H, uwE1M, uwE1R, uwE1A, uwE1T, uwE1S, uwE1C, uwE1D]) from ⟨uwE1H, uwE1M, uwE1R, uwE1A, uwE1T, uwE1S, uwE1C, uwE1D, rfl, ruwE1H, ruwE1M, ruwE1R, ruwE1A, ruwE1T, ruwE1S, ruwE1C, ruwE1D⟩) 
   rw [hw114] at f114
   refine y52q (cv_fn rfl rfl (y15q (TR.clo y5q.t (show y5q.t.R zE1.p (.agg [vs zE1.p.Name, uwE1H, uwE1M, uwE1R, uwE1A, uwE1T, uwE1S, uwE1C, uwE1D]) from ⟨uwE1H, uwE1M, uwE1R, uwE1A, uwE1T, uwE1S, uwE1C, uwE1D, rfl, ruwE1H, ruwE1M, ruwE1R, ruwE1A, ruwE1T, ruwE1S, ruwE1C, ruwE1D⟩)) (y15q rfl y36q)) f114) (y40q ?_)
   have M115 : Mem h (⟨.op i0_ w0_ 0, 70, 10, [.agg [vs zE1.p.Name, uwE1H, uwE1M, uwE1R, uwE1A, uwE1T, uwE1S, uwE1C, uwE1D, awE1_8]]⟩ :: ⟨awE1_8, 3, 1, eswE1_8⟩ :: R_) := (Mem.front (k := 1) (Mem.front (k := 1) M0 rfl) rfl)
   obtain ⟨y115, hw115, hres⟩ := y47q hres
   obtain ⟨vr115, h116, hX115, hZ115⟩ := f31_ok (x0 := y114) (c0 := ({ p := zE1.p, cells := zE1.cells } : y9q)) ruwE1H ruwE1M ruwE1R ruwE1A ruwE1T ruwE1S ruwE1C ruwE1D qswE1_8 newE1_8 hlwE1_8 wiwE1_9 M115 (by first | assumption | omega | (rw [wr_of (by omega) (by omega)]; omega))
   rw [hw115] at hZ115
   obtain ⟨u115_0H, u115_0M, u115_0R, u115_0A, u115_0T, u115_0S, u115_0C, u115_0D, a115_0_8, es115_0_8, M116, ru115_0H, ru115_0M, ru115_0R, ru115_0A, ru115_0T, ru115_0S, ru115_0C, ru115_0D, qs115_0_8, ne115_0_8, hl115_0_8, wi115_0_9, hr115⟩ := hZ115
   replace hr115 := hr115.symm; subst hr115
   refine y86q rfl rfl hX115 ?_
   have ek115 := add1_len hw115; try dsimp only at ek115
   refine rs_nil (y67q (y6q (y2q (rd_op (y20q rfl rfl i_add) (rd_op (y1q rfl) (y10q (y56q ?_)))))))
   have hbd := y58q r2
   have hinc : wr (x33_ + 1) = x33_ + 1 := wr_of (by omega) (by omega)
   rw [hinc]
   refine y37q ?_ (ih (x33_ + 1) ({ p := y115.p, cells := y115.cells } : y9q) u115_0H u115_0M u115_0R u115_0A u115_0T u115_0S u115_0C u115_0D a115_0_8 es115_0_8 (show (tSl y21q.t).R y115.p.Headers u115_0H from ru115_0H) (show (tSl y14q.t).R y115.p.Metadata u115_0M from ru115_0M) (show (tSl y27q.t).R y115.p.Registers u115_0R from ru115_0R) (show (tSl y23q.t).R y115.p.Actions u115_0A from ru115_0A) (show (tSl y26q.t).R y115.p.Tables u115_0T from ru115_0T) (show (tSl y16q.t).R y115.p.States u115_0S from ru115_0S) (show (tSl y8q.t).R y115.p.Control u115_0C from ru115_0C) (show (tSl tI).R y115.p.Deparser u115_0D from ru115_0D) qs115_0_8 ne115_0_8 hl115_0_8 wi115_0_9 (by omega) (by omega) (by first | omega | ((try dsimp only); (try simp only [List.length_append, List.length_cons, List.length_nil]); omega) | simp) (by first | omega | ((try dsimp only); (try simp only [List.length_append, List.length_cons, List.length_nil]); omega) | simp) _ (Mem.sub M116 (.cons_cons _ (.cons_cons _ (List.Sublist.refl R_)))) hres)
   exact ((y3q rfl (y3q rfl (y3q rfl (y3q rfl (y3q rfl (y3q rfl (y31q _))))))))
  ·exfalso
   try simp only [qa, qaD] at hc112
   omega

theorem __access_collector__add_L3_ok {S : List Fr} {res : y9q} {x0 : y9q} {x1 : List y4q} {x2 : List Int} {x3 : List Int} {zE1_110 : y9q} {zE1_117 : y9q} {v3 : PV} {R_ : List Ent} {u0_H : PV} {u0_M : PV} {u0_R : PV} {u0_A : PV} {u0_T : PV} {u0_S : PV} {u0_C : PV} {u0_D : PV} {a0__8 : PV} {es0__8 : List PV} {uw110E1H : PV} {uw110E1M : PV} {uw110E1R : PV} {uw110E1A : PV} {uw110E1T : PV} {uw110E1S : PV} {uw110E1C : PV} {uw110E1D : PV} {aw110E1_8 : PV} {esw110E1_8 : List PV} {uw117E1H : PV} {uw117E1M : PV} {uw117E1R : PV} {uw117E1A : PV} {uw117E1T : PV} {uw117E1S : PV} {uw117E1C : PV} {uw117E1D : PV} {aw117E1_8 : PV} {esw117E1_8 : List PV} {i0_ : Nat} {w0_ : Nat} (r3 : (tSl tI).R x3 v3) (ru0_H : (tSl y21q.t).R x0.p.Headers u0_H) (ru0_M : (tSl y14q.t).R x0.p.Metadata u0_M) (ru0_R : (tSl y27q.t).R x0.p.Registers u0_R) (ru0_A : (tSl y23q.t).R x0.p.Actions u0_A) (ru0_T : (tSl y26q.t).R x0.p.Tables u0_T) (ru0_S : (tSl y16q.t).R x0.p.States u0_S) (ru0_C : (tSl y8q.t).R x0.p.Control u0_C) (ru0_D : (tSl tI).R x0.p.Deparser u0_D) (ne0__8 : isL a0__8 = true) (hl0__8 : x0.cells.length ≤ 4611686018427387904) (wi0__9 : Wri a0__8 es0__8) (hb : x0.cells.length + x1.length + x2.length + x3.length ≤ 1000000) (ruw110E1H : (tSl y21q.t).R zE1_110.p.Headers uw110E1H) (ruw110E1M : (tSl y14q.t).R zE1_110.p.Metadata uw110E1M) (ruw110E1R : (tSl y27q.t).R zE1_110.p.Registers uw110E1R) (ruw110E1A : (tSl y23q.t).R zE1_110.p.Actions uw110E1A) (ruw110E1T : (tSl y26q.t).R zE1_110.p.Tables uw110E1T) (ruw110E1S : (tSl y16q.t).R zE1_110.p.States uw110E1S) (ruw110E1C : (tSl y8q.t).R zE1_110.p.Control uw110E1C) (ruw110E1D : (tSl tI).R zE1_110.p.Deparser uw110E1D) (new110E1_8 : isL aw110E1_8 = true) (hlw110E1_8 : zE1_110.cells.length ≤ 4611686018427387904) (wiw110E1_9 : Wri aw110E1_8 esw110E1_8) (po110_0 : zE1_110.cells.length ≤ x0.cells.length + x1.length) (ruw117E1H : (tSl y21q.t).R zE1_117.p.Headers uw117E1H) (ruw117E1M : (tSl y14q.t).R zE1_117.p.Metadata uw117E1M) (ruw117E1R : (tSl y27q.t).R zE1_117.p.Registers uw117E1R) (ruw117E1A : (tSl y23q.t).R zE1_117.p.Actions uw117E1A) (ruw117E1T : (tSl y26q.t).R zE1_117.p.Tables uw117E1T) (ruw117E1S : (tSl y16q.t).R zE1_117.p.States uw117E1S) (ruw117E1C : (tSl y8q.t).R zE1_117.p.Control uw117E1C) (ruw117E1D : (tSl tI).R zE1_117.p.Deparser uw117E1D) (new117E1_8 : isL aw117E1_8 = true) (hlw117E1_8 : zE1_117.cells.length ≤ 4611686018427387904) (wiw117E1_9 : Wri aw117E1_8 esw117E1_8) (po117_0 : zE1_117.cells.length ≤ x0.cells.length + x1.length + x2.length) {K4 : y9q → y9q}
  (hK4 : ∀ (zE1 : y9q) (uwE1H : PV) (uwE1M : PV) (uwE1R : PV) (uwE1A : PV) (uwE1T : PV) (uwE1S : PV) (uwE1C : PV) (uwE1D : PV) (awE1_8 : PV) (eswE1_8 : List PV) (ruwE1H : (tSl y21q.t).R zE1.p.Headers uwE1H) (ruwE1M : (tSl y14q.t).R zE1.p.Metadata uwE1M) (ruwE1R : (tSl y27q.t).R zE1.p.Registers uwE1R) (ruwE1A : (tSl y23q.t).R zE1.p.Actions uwE1A) (ruwE1T : (tSl y26q.t).R zE1.p.Tables uwE1T) (ruwE1S : (tSl y16q.t).R zE1.p.States uwE1S) (ruwE1C : (tSl y8q.t).R zE1.p.Control uwE1C) (ruwE1D : (tSl tI).R zE1.p.Deparser uwE1D) (qswE1_8 : All2 tI.R zE1.cells eswE1_8) (newE1_8 : isL awE1_8 = true) (hlwE1_8 : zE1.cells.length ≤ 4611686018427387904) (wiwE1_9 : Wri awE1_8 eswE1_8) (po0 : zE1.cells.length ≤ x0.cells.length + x1.length + x2.length + x3.length) (h : Heap) (M0 : Mem h (⟨.op i0_ w0_ 0, 70, 10, [.agg [vs zE1.p.Name, uwE1H, uwE1M, uwE1R, uwE1A, uwE1T, uwE1S, uwE1C, uwE1D, awE1_8]]⟩ :: ⟨awE1_8, 3, 1, eswE1_8⟩ :: R_)), K4 zE1 = res → PX Try.prog 4 S (retPost Try.prog [] (RF20 i0_ w0_ R_ res)) [] h) :
  ∀ (m : Nat) (x48_ : Int) (zE1 : y9q) (uwE1H : PV) (uwE1M : PV) (uwE1R : PV) (uwE1A : PV) (uwE1T : PV) (uwE1S : PV) (uwE1C : PV) (uwE1D : PV) (awE1_8 : PV) (eswE1_8 : List PV) (ruwE1H : (tSl y21q.t).R zE1.p.Headers uwE1H) (ruwE1M : (tSl y14q.t).R zE1.p.Metadata uwE1M) (ruwE1R : (tSl y27q.t).R zE1.p.Registers uwE1R) (ruwE1A : (tSl y23q.t).R zE1.p.Actions uwE1A) (ruwE1T : (tSl y26q.t).R zE1.p.Tables uwE1T) (ruwE1S : (tSl y16q.t).R zE1.p.States uwE1S) (ruwE1C : (tSl y8q.t).R zE1.p.Control uwE1C) (ruwE1D : (tSl tI).R zE1.p.Deparser uwE1D) (qswE1_8 : All2 tI.R zE1.cells eswE1_8) (newE1_8 : isL awE1_8 = true) (hlwE1_8 : zE1.cells.length ≤ 4611686018427387904) (wiwE1_9 : Wri awE1_8 eswE1_8) (hm3 : m = Int.toNat ((x3.length : Int) - x48_)) (hlo3 : 0 ≤ x48_) (iv3_0 : (zE1.cells.length : Int) ≤ (x0.cells.length + x1.length + x2.length : Int) + x48_) (iv3_1 : x48_ ≤ (x3.length : Int)) (h : Heap) (M0 : Mem h (⟨.op i0_ w0_ 0, 70, 10, [.agg [vs zE1.p.Name, uwE1H, uwE1M, uwE1R, uwE1A, uwE1T, uwE1S, uwE1C, uwE1D, awE1_8]]⟩ :: ⟨awE1_8, 3, 1, eswE1_8⟩ :: R_)), y70q x3 K4 m x48_ zE1 = res → RC Try.prog (.loop ac20_L3) S (retPost Try.prog [] (RF20 i0_ w0_ R_ res)) [(48, vi x48_), (47, vi (x3.length : Int)), (46, v3), (8, .fn (.func 31) [] [.fp (.op i0_ w0_ 0)]), (4, .fp (.op i0_ w0_ 0))] h := by
 have hb' := hb
 try simp only [qa, qaD] at hb'
 intro m
 induction m with
 | zero =>
  intro x48_ zE1 uwE1H uwE1M uwE1R uwE1A uwE1T uwE1S uwE1C uwE1D awE1_8 eswE1_8 ruwE1H ruwE1M ruwE1R ruwE1A ruwE1T ruwE1S ruwE1C ruwE1D qswE1_8 newE1_8 hlwE1_8 wiwE1_9 hm3 hlo3 iv3_0 iv3_1 h M0 hres
  rw [y70q] at hres
  refine y53q ?_
  unfold ac20_L3
  refine y7q (y2q (rd_op (y20q rfl rfl i_lss) (y10q (y6q (y7q ?_)))))
  refine y24q rfl (fun hc118 => ?_) (fun hc118 => ?_)
  ·exfalso
   try simp only [qa, qaD] at hc118
   omega
  ·have hend := hres
   have hc118' := hc118
   try simp only [qa, qaD] at hc118'
   refine y93q (px_seq (y78q ?_))
   exact y96q ((y31q _)) (hK4 ({ p := zE1.p, cells := zE1.cells } : y9q) uwE1H uwE1M uwE1R uwE1A uwE1T uwE1S uwE1C uwE1D awE1_8 eswE1_8 (show (tSl y21q.t).R zE1.p.Headers uwE1H from ruwE1H) (show (tSl y14q.t).R zE1.p.Metadata uwE1M from ruwE1M) (show (tSl y27q.t).R zE1.p.Registers uwE1R from ruwE1R) (show (tSl y23q.t).R zE1.p.Actions uwE1A from ruwE1A) (show (tSl y26q.t).R zE1.p.Tables uwE1T from ruwE1T) (show (tSl y16q.t).R zE1.p.States uwE1S from ruwE1S) (show (tSl y8q.t).R zE1.p.Control uwE1C from ruwE1C) (show (tSl tI).R zE1.p.Deparser uwE1D from ruwE1D) qswE1_8 newE1_8 hlwE1_8 wiwE1_9 (by first | omega | ((try dsimp only); (try simp only [List.length_append, List.length_cons, List.length_nil]); omega) | simp) _ (Mem.sub M0 (.cons_cons _ (.cons_cons _ (List.Sublist.refl R_)))) hres)
 | succ m ih =>
  intro x48_ zE1 uwE1H uwE1M uwE1R uwE1A uwE1T uwE1S uwE1C uwE1D awE1_8 eswE1_8 ruwE1H ruwE1M ruwE1R ruwE1A ruwE1T ruwE1S ruwE1C ruwE1D qswE1_8 newE1_8 hlwE1_8 wiwE1_9 hm3 hlo3 iv3_0 iv3_1 h M0 hres
  rw [y70q] at hres
  refine y53q ?_
  unfold ac20_L3
  refine y7q (y2q (rd_op (y20q rfl rfl i_lss) (y10q (y6q (y7q ?_)))))
  refine y24q rfl (fun hc119 => ?_) (fun hc119 => ?_)
  ·have hgo := hres
   have hc119' := hc119
   try simp only [qa, qaD] at hc119'
   refine y34q (y6q (y7q (y42q (y7q (y2q (rd_op (y48q rfl rfl (slI r3 (by omega) (by omega))) (rd_op (y19q rfl rfl rfl) (rd_op (y1q rfl) ?_))))))))
   refine y10q (y6q (y75q (y39q (rd_op (y1q rfl) (y40q (y39q (rd_op (y19q rfl rfl rfl) (y40q ?_))))))))
   refine y39q (rd_op (y97q rfl rfl) (y40q (y39q (rd_op (y33q rfl) (y40q (y39q (rd_op (y43q (k := 0) M0 rfl rfl rfl) (y40q ?_))))))))
   refine y39q (rd_op (y1q rfl) (y40q (y39q ?_)))
   obtain ⟨y121, hw121, hres⟩ := y47q hres
   have f121 := f17_ok (x1 := (ix x3 x48_)) (show y5q.t.R zE1.p (.agg [vs zE1.p.Name, uwE1H, uwE1M, uwE1R, uwE1A, uwE1T, uwE1S, uwE1C, uwE1D]) from ⟨uwE1H, uwE1M, uwE1R, uwE1A, uwE1T, uwE1S, uwE1C, uwE1D, rfl, ruwE1H, ruwE1M, ruwE1R, ruwE1A, ruwE1T, ruwE1S, ruwE1C, ruwE1D⟩) 
   rw [hw121] at f121
   refine y52q (cv_fn rfl rfl (y15q (TR.clo y5q.t (show y5q.t.R zE1.p (.agg [vs zE1.p.Name, uwE1H, uwE1M, uwE1R, uwE1A, uwE1T, uwE1S, uwE1C, uwE1D]) from ⟨uwE1H, uwE1M, uwE1R, uwE1A, uwE1T, uwE1S, uwE1C, uwE1D, rfl, ruwE1H, ruwE1M, ruwE1R, ruwE1A, ruwE1T, ruwE1S, ruwE1C, ruwE1D⟩)) (y15q rfl y36q)) f121) (y40q ?_)
   have M122 : Mem h (⟨.op i0_ w0_ 0, 70, 10, [.agg [vs zE1.p.Name, uwE1H, uwE1M, uwE1R, uwE1A, uwE1T, uwE1S, uwE1C, uwE1D, awE1_8]]⟩ :: ⟨awE1_8, 3, 1, eswE1_8⟩ :: R_) := (Mem.front (k := 1) (Mem.front (k := 1) M0 rfl) rfl)
   obtain ⟨y122, hw122, hres⟩ := y47q hres
   obtain ⟨vr122, h123, hX122, hZ122⟩ := f31_ok (x0 := y121) (c0 := ({ p := zE1.p, cells := zE1.cells } : y9q)) ruwE1H ruwE1M ruwE1R ruwE1A ruwE1T ruwE1S ruwE1C ruwE1D qswE1_8 newE1_8 hlwE1_8 wiwE1_9 M122 (by first | assumption | omega | (rw [wr_of (by omega) (by omega)]; omega))
   rw [hw122] at hZ122
   obtain ⟨u122_0H, u122_0M, u122_0R, u122_0A, u122_0T, u122_0S, u122_0C, u122_0D, a122_0_8, es122_0_8, M123, ru122_0H, ru122_0M, ru122_0R, ru122_0A, ru122_0T, ru122_0S, ru122_0C, ru122_0D, qs122_0_8, ne122_0_8, hl122_0_8, wi122_0_9, hr122⟩ := hZ122
   replace hr122 := hr122.symm; subst hr122
   refine y86q rfl rfl hX122 ?_
   have ek122 := add1_len hw122; try dsimp only at ek122
   refine rs_nil (y67q (y6q (y2q (rd_op (y20q rfl rfl i_add) (rd_op (y1q rfl) (y10q (y56q ?_)))))))
   have hbd := y58q r3
   have hinc : wr (x48_ + 1) = x48_ + 1 := wr_of (by omega) (by omega)
   rw [hinc]
   refine y37q ?_ (ih (x48_ + 1) ({ p := y122.p, cells := y122.cells } : y9q) u122_0H u122_0M u122_0R u122_0A u122_0T u122_0S u122_0C u122_0D a122_0_8 es122_0_8 (show (tSl y21q.t).R y122.p.Headers u122_0H from ru122_0H) (show (tSl y14q.t).R y122.p.Metadata u122_0M from ru122_0M) (show (tSl y27q.t).R y122.p.Registers u122_0R from ru122_0R) (show (tSl y23q.t).R y122.p.Actions u122_0A from ru122_0A) (show (tSl y26q.t).R y122.p.Tables u122_0T from ru122_0T) (show (tSl y16q.t).R y122.p.States u122_0S from ru122_0S) (show (tSl y8q.t).R y122.p.Control u122_0C from ru122_0C) (show (tSl tI).R y122.p.Deparser u122_0D from ru122_0D) qs122_0_8 ne122_0_8 hl122_0_8 wi122_0_9 (by omega) (by omega) (by first | omega | ((try dsimp only); (try simp only [List.length_append, List.length_cons, List.length_nil]); omega) | simp) (by first | omega | ((try dsimp only); (try simp only [List.length_append, List.length_cons, List.length_nil]); omega) | simp) _ (Mem.sub M123 (.cons_cons _ (.cons_cons _ (List.Sublist.refl R_)))) hres)
   exact ((y3q rfl (y3q rfl (y3q rfl (y3q rfl (y3q rfl (y31q _)))))))
  ·exfalso
   try simp only [qa, qaD] at hc119
   omega

theorem f20_ok {x0 : y9q} {x1 : List y4q} {x2 : List Int} {x3 : List Int} {v1 : PV} {v2 : PV} {v3 : PV} {u0_H : PV} {u0_M : PV} {u0_R : PV} {u0_A : PV} {u0_T : PV} {u0_S : PV} {u0_C : PV} {u0_D : PV} {a0__8 : PV} {es0__8 : List PV} {R_ : List Ent} {h_ : Heap} {i0_ w0_ : Nat} (r1 : (tSl y4q.t).R x1 v1) (r2 : (tSl tI).R x2 v2) (r3 : (tSl tI).R x3 v3) (ru0_H : (tSl y21q.t).R x0.p.Headers u0_H) (ru0_M : (tSl y14q.t).R x0.p.Metadata u0_M) (ru0_R : (tSl y27q.t).R x0.p.Registers u0_R) (ru0_A : (tSl y23q.t).R x0.p.Actions u0_A) (ru0_T : (tSl y26q.t).R x0.p.Tables u0_T) (ru0_S : (tSl y16q.t).R x0.p.States u0_S) (ru0_C : (tSl y8q.t).R x0.p.Control u0_C) (ru0_D : (tSl tI).R x0.p.Deparser u0_D) (qs0__8 : All2 tI.R x0.cells es0__8) (ne0__8 : isL a0__8 = true) (hl0__8 : x0.cells.length ≤ 4611686018427387904) (wi0__9 : Wri a0__8 es0__8) (M_ : Mem h_ (⟨.op i0_ w0_ 0, 70, 10, [.agg [vs x0.p.Name, u0_H, u0_M, u0_R, u0_A, u0_T, u0_S, u0_C, u0_D, a0__8]]⟩ :: ⟨a0__8, 3, 1, es0__8⟩ :: R_)) (hb : x0.cells.length + x1.length + x2.length + x3.length ≤ 1000000) : ∃ r h2_, FnX Try.prog 20 [.op i0_ w0_ 0, v1, v2, v3] h_ r h2_ ∧ RF20 i0_ w0_ R_ (y60q x0 x1 x2 x3) r h2_ := by
 obtain ⟨res, hres⟩ : ∃ res, y60q x0 x1 x2 x3 = res := ⟨_, rfl⟩
 suffices H : RC Try.prog ac20 [] (retPost Try.prog [] (RF20 i0_ w0_ R_ res)) (argE 0 [.op i0_ w0_ 0, v1, v2, v3]) h_ by
  rw [hres]
  exact fnX text20 (by simp) H
 unfold y60q at hres
 unfold ac20
 refine y7q (y2q (rd_op (y102q rfl rfl) (y10q (y6q (y7q (y2q (rd_op (v := .fn (.func 31) [] [.fp (.op i0_ w0_ 0)]) (ov_mkFunc rfl rfl) (rd_op (y1q rfl) ?_))))))))
 refine y10q (y6q (y7q (y7q (y2q (rd_op (y1q rfl) (rd_op (ov_bi rfl (y62q r1 Try.underlying72 _)) (rd_op (v := vi 0) (y1q rfl) (y10q ?_))))))))
 refine y6q (y42q ?_)
 refine y37q ?_ (__access_collector__add_L1_ok (x0 := x0) (x1 := x1) (x2 := x2) (x3 := x3) (v1 := v1) (v2 := v2) (v3 := v3) (R_ := R_) (u0_H := u0_H) (u0_M := u0_M) (u0_R := u0_R) (u0_A := u0_A) (u0_T := u0_T) (u0_S := u0_S) (u0_C := u0_C) (u0_D := u0_D) (a0__8 := a0__8) (es0__8 := es0__8) (i0_ := i0_) (w0_ := w0_) (r1 := r1) (ru0_H := ru0_H) (ru0_M := ru0_M) (ru0_R := ru0_R) (ru0_A := ru0_A) (ru0_T := ru0_T) (ru0_S := ru0_S) (ru0_C := ru0_C) (ru0_D := ru0_D) (ne0__8 := ne0__8) (hl0__8 := hl0__8) (wi0__9 := wi0__9) (hb := hb) ?_ (Int.toNat ((x1.length : Int) - 0)) 0 ({ p := x0.p, cells := x0.cells } : y9q) u0_H u0_M u0_R u0_A u0_T u0_S u0_C u0_D a0__8 es0__8 (show (tSl y21q.t).R x0.p.Headers u0_H from ru0_H) (show (tSl y14q.t).R x0.p.Metadata u0_M from ru0_M) (show (tSl y27q.t).R x0.p.Registers u0_R from ru0_R) (show (tSl y23q.t).R x0.p.Actions u0_A from ru0_A) (show (tSl y26q.t).R x0.p.Tables u0_T from ru0_T) (show (tSl y16q.t).R x0.p.States u0_S from ru0_S) (show (tSl y8q.t).R x0.p.Control u0_C from ru0_C) (show (tSl tI).R x0.p.Deparser u0_D from ru0_D) qs0__8 ne0__8 hl0__8 wi0__9 rfl (by omega) (by first | omega | ((try dsimp only); (try simp only [List.length_append, List.length_cons, List.length_nil]); omega) | simp) (by first | omega | ((try dsimp only); (try simp only [List.length_append, List.length_cons, List.length_nil]); omega) | simp) _ (Mem.sub M_ (.cons_cons _ (.cons_cons _ (List.Sublist.refl R_)))) hres)
 ·exact ((y3q rfl (y3q rfl (y3q rfl (y3q rfl (y3q rfl (y3q rfl (y3q rfl (y31q _)))))))))
 ·intro zE1_110 uw110E1H uw110E1M uw110E1R uw110E1A uw110E1T uw110E1S uw110E1C uw110E1D aw110E1_8 esw110E1_8 ruw110E1H ruw110E1M ruw110E1R ruw110E1A ruw110E1T ruw110E1S ruw110E1C ruw110E1D qsw110E1_8 new110E1_8 hlw110E1_8 wiw110E1_9 po110_0 h110 M110 hres
  refine px_blk (y6q (y7q (y7q (y2q (rd_op (y1q rfl) (rd_op (ov_bi rfl (y62q r2 Try.underlying29 _)) (rd_op (v := vi 0) (y1q rfl) (y10q ?_))))))))
  refine y6q (y42q ?_)
  refine y37q ?_ (__access_collector__add_L2_ok (x0 := x0) (x1 := x1) (x2 := x2) (x3 := x3) (zE1_110 := zE1_110) (v2 := v2) (v3 := v3) (R_ := R_) (u0_H := u0_H) (u0_M := u0_M) (u0_R := u0_R) (u0_A := u0_A) (u0_T := u0_T) (u0_S := u0_S) (u0_C := u0_C) (u0_D := u0_D) (a0__8 := a0__8) (es0__8 := es0__8) (uw110E1H := uw110E1H) (uw110E1M := uw110E1M) (uw110E1R := uw110E1R) (uw110E1A := uw110E1A) (uw110E1T := uw110E1T) (uw110E1S := uw110E1S) (uw110E1C := uw110E1C) (uw110E1D := uw110E1D) (aw110E1_8 := aw110E1_8) (esw110E1_8 := esw110E1_8) (i0_ := i0_) (w0_ := w0_) (r2 := r2) (ru0_H := ru0_H) (ru0_M := ru0_M) (ru0_R := ru0_R) (ru0_A := ru0_A) (ru0_T := ru0_T) (ru0_S := ru0_S) (ru0_C := ru0_C) (ru0_D := ru0_D) (ne0__8 := ne0__8) (hl0__8 := hl0__8) (wi0__9 := wi0__9) (hb := hb) (ruw110E1H := ruw110E1H) (ruw110E1M := ruw110E1M) (ruw110E1R := ruw110E1R) (ruw110E1A := ruw110E1A) (ruw110E1T := ruw110E1T) (ruw110E1S := ruw110E1S) (ruw110E1C := ruw110E1C) (ruw110E1D := ruw110E1D) (new110E1_8 := new110E1_8) (hlw110E1_8 := hlw110E1_8) (wiw110E1_9 := wiw110E1_9) (po110_0 := po110_0) ?_ (Int.toNat ((x2.length : Int) - 0)) 0 ({ p := zE1_110.p, cells := zE1_110.cells } : y9q) uw110E1H uw110E1M uw110E1R uw110E1A uw110E1T uw110E1S uw110E1C uw110E1D aw110E1_8 esw110E1_8 (show (tSl y21q.t).R zE1_110.p.Headers uw110E1H from ruw110E1H) (show (tSl y14q.t).R zE1_110.p.Metadata uw110E1M from ruw110E1M) (show (tSl y27q.t).R zE1_110.p.Registers uw110E1R from ruw110E1R) (show (tSl y23q.t).R zE1_110.p.Actions uw110E1A from ruw110E1A) (show (tSl y26q.t).R zE1_110.p.Tables uw110E1T from ruw110E1T) (show (tSl y16q.t).R zE1_110.p.States uw110E1S from ruw110E1S) (show (tSl y8q.t).R zE1_110.p.Control uw110E1C from ruw110E1C) (show (tSl tI).R zE1_110.p.Deparser uw110E1D from ruw110E1D) qsw110E1_8 new110E1_8 hlw110E1_8 wiw110E1_9 rfl (by omega) (by first | omega | ((try dsimp only); (try simp only [List.length_append, List.length_cons, List.length_nil]); omega) | simp) (by first | omega | ((try dsimp only); (try simp only [List.length_append, List.length_cons, List.length_nil]); omega) | simp) _ (Mem.sub M110 (.cons_cons _ (.cons_cons _ (List.Sublist.refl R_)))) hres)
  ·exact ((y3q rfl (y3q rfl (y3q rfl (y3q rfl (y3q rfl (y3q rfl (y31q _))))))))
  ·intro zE1_117 uw117E1H uw117E1M uw117E1R uw117E1A uw117E1T uw117E1S uw117E1C uw117E1D aw117E1_8 esw117E1_8 ruw117E1H ruw117E1M ruw117E1R ruw117E1A ruw117E1T ruw117E1S ruw117E1C ruw117E1D qsw117E1_8 new117E1_8 hlw117E1_8 wiw117E1_9 po117_0 h117 M117 hres
   refine px_blk (y6q (y7q (y2q (rd_op (y1q rfl) (rd_op (ov_bi rfl (y62q r3 Try.underlying29 _)) (rd_op (v := vi 0) (y1q rfl) (y10q (y6q ?_))))))))
   refine y42q ?_
   refine y37q ?_ (__access_collector__add_L3_ok (x0 := x0) (x1 := x1) (x2 := x2) (x3 := x3) (zE1_110 := zE1_110) (zE1_117 := zE1_117) (v3 := v3) (R_ := R_) (u0_H := u0_H) (u0_M := u0_M) (u0_R := u0_R) (u0_A := u0_A) (u0_T := u0_T) (u0_S := u0_S) (u0_C := u0_C) (u0_D := u0_D) (a0__8 := a0__8) (es0__8 := es0__8) (uw110E1H := uw110E1H) (uw110E1M := uw110E1M) (uw110E1R := uw110E1R) (uw110E1A := uw110E1A) (uw110E1T := uw110E1T) (uw110E1S := uw110E1S) (uw110E1C := uw110E1C) (uw110E1D := uw110E1D) (aw110E1_8 := aw110E1_8) (esw110E1_8 := esw110E1_8) (uw117E1H := uw117E1H) (uw117E1M := uw117E1M) (uw117E1R := uw117E1R) (uw117E1A := uw117E1A) (uw117E1T := uw117E1T) (uw117E1S := uw117E1S) (uw117E1C := uw117E1C) (uw117E1D := uw117E1D) (aw117E1_8 := aw117E1_8) (esw117E1_8 := esw117E1_8) (i0_ := i0_) (w0_ := w0_) (r3 := r3) (ru0_H := ru0_H) (ru0_M := ru0_M) (ru0_R := ru0_R) (ru0_A := ru0_A) (ru0_T := ru0_T) (ru0_S := ru0_S) (ru0_C := ru0_C) (ru0_D := ru0_D) (ne0__8 := ne0__8) (hl0__8 := hl0__8) (wi0__9 := wi0__9) (hb := hb) (ruw110E1H := ruw110E1H) (ruw110E1M := ruw110E1M) (ruw110E1R := ruw110E1R) (ruw110E1A := ruw110E1A) (ruw110E1T := ruw110E1T) (ruw110E1S := ruw110E1S) (ruw110E1C := ruw110E1C) (ruw110E1D := ruw110E1D) (new110E1_8 := new110E1_8) (hlw110E1_8 := hlw110E1_8) (wiw110E1_9 := wiw110E1_9) (po110_0 := po110_0) (ruw117E1H := ruw117E1H) (ruw117E1M := ruw117E1M) (ruw117E1R := ruw117E1R) (ruw117E1A := ruw117E1A) (ruw117E1T := ruw117E1T) (ruw117E1S := ruw117E1S) (ruw117E1C := ruw117E1C) (ruw117E1D := ruw117E1D) (new117E1_8 := new117E1_8) (hlw117E1_8 := hlw117E1_8) (wiw117E1_9 := wiw117E1_9) (po117_0 := po117_0) ?_ (Int.toNat ((x3.length : Int) - 0)) 0 ({ p := zE1_117.p, cells := zE1_117.cells } : y9q) uw117E1H uw117E1M uw117E1R uw117E1A uw117E1T uw117E1S uw117E1C uw117E1D aw117E1_8 esw117E1_8 (show (tSl y21q.t).R zE1_117.p.Headers uw117E1H from ruw117E1H) (show (tSl y14q.t).R zE1_117.p.Metadata uw117E1M from ruw117E1M) (show (tSl y27q.t).R zE1_117.p.Registers uw117E1R from ruw117E1R) (show (tSl y23q.t).R zE1_117.p.Actions uw117E1A from ruw117E1A) (show (tSl y26q.t).R zE1_117.p.Tables uw117E1T from ruw117E1T) (show (tSl y16q.t).R zE1_117.p.States uw117E1S from ruw117E1S) (show (tSl y8q.t).R zE1_117.p.Control uw117E1C from ruw117E1C) (show (tSl tI).R zE1_117.p.Deparser uw117E1D from ruw117E1D) qsw117E1_8 new117E1_8 hlw117E1_8 wiw117E1_9 rfl (by omega) (by first | omega | ((try dsimp only); (try simp only [List.length_append, List.length_cons, List.length_nil]); omega) | simp) (by first | omega | ((try dsimp only); (try simp only [List.length_append, List.length_cons, List.length_nil]); omega) | simp) _ (Mem.sub M117 (.cons_cons _ (.cons_cons _ (List.Sublist.refl R_)))) hres)
   ·exact ((y3q rfl (y3q rfl (y3q rfl (y3q rfl (y3q rfl (y31q _)))))))
   ·intro zE1_124 uw124E1H uw124E1M uw124E1R uw124E1A uw124E1T uw124E1S uw124E1C uw124E1D aw124E1_8 esw124E1_8 ruw124E1H ruw124E1M ruw124E1R ruw124E1A ruw124E1T ruw124E1S ruw124E1C ruw124E1D qsw124E1_8 new124E1_8 hlw124E1_8 wiw124E1_9 po124_0 h124 M124 hres
    refine px_blk ?_
    have MZ125 : Mem h124 (⟨.op i0_ w0_ 0, 70, 10, [.agg [vs zE1_124.p.Name, uw124E1H, uw124E1M, uw124E1R, uw124E1A, uw124E1T, uw124E1S, uw124E1C, uw124E1D, aw124E1_8]]⟩ :: ⟨aw124E1_8, 3, 1, esw124E1_8⟩ :: R_) := (Mem.front (k := 1) (Mem.front (k := 1) M124 rfl) rfl)
    subst hres
    exact pn_endX .nil ⟨uw124E1H, uw124E1M, uw124E1R, uw124E1A, uw124E1T, uw124E1S, uw124E1C, uw124E1D, aw124E1_8, esw124E1_8, Mem.sub MZ125 (.cons_cons _ (.cons_cons _ (List.Sublist.refl R_))), ruw124E1H, ruw124E1M, ruw124E1R, ruw124E1A, ruw124E1T, ruw124E1S, ruw124E1C, ruw124E1D, qsw124E1_8, new124E1_8, hlw124E1_8, wiw124E1_9, rfl⟩

end Go.Proofs.Ytmonnlkagniolaa
