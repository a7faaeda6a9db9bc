/-
  Hand-written texts in one.
-/
import Derived.Test.YtkgnjpoafilicaaL9Text
import Derived.Test.YtkgnjpoafilicaaKMuUm
import Derived.Test.YtkgnjpoafilicaaPbC
import Derived.Test.YtkgnjpoafilicaaKMuUm
set_option linter.unusedVariables false
set_option linter.unusedSimpArgs false
set_option maxRecDepth 100000
namespace Go.Proofs.Ytkgnjpoafilicaa
open Go Go.Pb Go.RowKit
theorem mem_perm {h : Heap} {L L' : List Ent} (M : Mem h L) (p : L.Perm L') : Mem h L' :=
  ⟨fun e he => M.ent e (p.mem_iff.2 he), (p.pairwise_iff fun ha => ha.symm).1 M.dis⟩
theorem mem_in {h : Heap} {e : Ent} {L R : List Ent} (M : Mem h (e :: (L ++ R))) : Mem h (L ++ (e :: R)) := mem_perm M List.perm_middle.symm
theorem mem_out {h : Heap} {e : Ent} {L R : List Ent} (M : Mem h (L ++ (e :: R))) : Mem h (e :: (L ++ R)) := mem_perm M List.perm_middle
theorem rs_ycallX {P : Program} {S : List Fr} {Q : Post} {E : TEnv} {h : Heap} {r : List AOper} {hf : Bool} {d t : Nat} {b w : Bool} {f : Operand} {args : List Operand} {g : FuncId} {az cap : List PV} {v : PV} {h' : Heap} (hg : Go.Pb.look t E = some (vb b)) (hb : b = w) (ef : evE E f = some (.fn (.func g) [] cap)) (ea : evL E args = some az) (H : FnX P g (az ++ cap) h v h') (k : RS P r S Q ((d, v) :: E) h') : RS P (⟨some d, .call f args, some (t, w), hf⟩ :: r) S Q E h := fun T hT => by
  subst hb
  refine ⟨T, h, Wk.refl T h, true, ?_, fun _ => .inr (.inl ⟨f, args, g, az ++ cap, v, h', rfl, by rw [evE_ok hT ef, evL_ok hT ea]; simp [callee], H, k _ (hT.put d v)⟩), fun e => by cases e⟩
  show guardF T (some (t, b)) = some true
  simp only [guardF]
  rw [hT t _ hg]
  simp
/-- What a visitor must do: it takes one node off what is allowed, and turns its own memory az0 the plain step says. -/
def VIS (P : Program) {σ : Type} (g : FuncId) (caps : List PV) (step : api_ControlNode → σ → Bool × σ) (ME : Nat → σ → List Ent → Prop) (G : api_ControlNode → Prop) : Prop :=
  ∀ (k : Nat) (a : api_ControlNode) (va : PV) (s : σ) (L R : List Ent) (h : Heap), G a → api_ControlNode.t.R a va → ME (k + 1) s L → Mem h (L ++ R) → ∃ h2 L2, FnX P g ([va] ++ caps) h (vb (step a s).1) h2 ∧ ME k (step a s).2 L2 ∧ Mem h2 (L2 ++ R)
def VPRE {σ : Type} (g : FuncId) (caps : List PV) (step : api_ControlNode → σ → Bool × σ) (ME : Nat → σ → List Ent → Prop) (c : List api_ControlNode) : Prop :=
  ∀ (k : Nat) (vc : PV) (s : σ) (L R : List Ent) (h : Heap), (tSl api_ControlNode.t).R c vc → ME (csl c + k) s L → Mem h (L ++ R) → ∃ h2 L2, FnX Try.prog 48 [vc, .fn (.func g) [] caps] h (vb (preL step c s).1) h2 ∧ ME k (preL step c s).2 L2 ∧ Mem h2 (L2 ++ R)
section
variable {σ : Type} {g : FuncId} {caps : List PV} {step : api_ControlNode → σ → Bool × σ} {ME : Nat → σ → List Ent → Prop} {G : api_ControlNode → Prop}
theorem monoN (mono : ∀ k s L, ME (k + 1) s L → ME k s L) {k : Nat} {s : σ} {L : List Ent} : ∀ j, ME (k + j) s L → ME k s L
  | 0, h => h
  | j + 1, h => monoN mono j (mono _ _ _ h)
theorem pre_loop (mono : ∀ k s L, ME (k + 1) s L → ME k s L) (HV : VIS Try.prog g caps step ME G) {c : List api_ControlNode} {vc : PV} (rc : (tSl api_ControlNode.t).R c vc) (hG : ∀ x ∈ poL c, G x) (IH : ∀ c', csl c' < csl c → (∀ x ∈ poL c', G x) → VPRE g caps step ME c') {R : List Ent} {k : Nat} {S : List Fr} {res : Bool × σ}
    (hK0 : ∀ (h : Heap) (L : List Ent), ME k res.2 L → res.1 = true → Mem h (L ++ R) → PX Try.prog 0 S (retPost Try.prog [(4, none)] fun r h' => ∃ L2, r = vb res.1 ∧ ME k res.2 L2 ∧ Mem h' (L2 ++ R)) [] h) :
    ∀ (m : Nat) (i : Int) (s : σ) (L : List Ent) (h : Heap), m = Int.toNat ((c.length : Int) - i) → 0 ≤ i → ME (csl (c.drop i.toNat) + k) s L → Mem h (L ++ R) → preL step (c.drop i.toNat) s = res →
      RC Try.prog (.loop ac48_L1) S (retPost Try.prog [(4, none)] fun r h' => ∃ L2, r = vb res.1 ∧ ME k res.2 L2 ∧ Mem h' (L2 ++ R)) [(9, vi i), (8, vi (c.length : Int)), (7, vc), (1, .fn (.func g) [] caps)] h := by
  have hbd := sl_bound rc
  intro m
  induction m with
  | zero =>
    intro i s L h hm h0 hM M hres
    have hd : c.drop i.toNat = [] := List.drop_eq_nil_of_le (by omega)
    rw [hd, preL_nil] at hres
    rw [hd] at hM
    refine rc_loop ?_
    unfold ac48_L1
    refine rc_seq ?_
    refine rc_region ?_
    refine rd_op (ov_bin rfl rfl i_lss) ?_
    refine rd_nil ?_
    refine pn_seq ?_
    refine rc_seq ?_
    refine rc_cond rfl (fun hc => ?_) (fun hc => ?_)
    · exfalso
      simp only [decide_eq_true_eq] at hc
      omega
    · refine rc_exit ?_
      refine px_seq ?_
      refine px_again ?_
      subst hres
      refine px_weak (sub_nil _) (hK0 _ L ?_ rfl M)
      simpa [csl] using hM
  | succ m ih =>
    intro i s L h hm h0 hM M hres
    have h1 : i < c.length := by omega
    have hd := drop_ix h0 h1
    rw [hd, preL_cons] at hres
    have hb : ME (csl (ix c i).Then + (csl (ix c i).Else + (csl (c.drop (i + 1).toNat) + k)) + 1) s L := by
      rw [hd, csl, csn_eq] at hM
      rw [show csl (ix c i).Then + (csl (ix c i).Else + (csl (c.drop (i + 1).toNat) + k)) + 1 = 1 + csl (ix c i).Then + csl (ix c i).Else + csl (c.drop (i + 1).toNat) + k by omega]
      exact hM
    have hlt := csl_ix h0 h1
    refine rc_loop ?_
    unfold ac48_L1
    refine rc_seq ?_
    refine rc_region ?_
    refine rd_op (ov_bin rfl rfl i_lss) ?_
    refine rd_nil ?_
    refine pn_seq ?_
    refine rc_seq ?_
    refine rc_cond rfl (fun hc => ?_) (fun hc => ?_)
    · refine rc_skip ?_
      refine pn_seq ?_
      refine rc_seq ?_
      refine rc_block ?_
      refine rc_seq ?_
      refine rc_region ?_
      obtain ⟨v1, e1, r1⟩ := sl_idx (i := i) rc h0 h1
      refine rd_op (ov_iaddr rfl rfl e1) ?_
      refine rd_op (ov_load rfl (TR.cnt api_ControlNode.t r1) (TR.agg api_ControlNode.t r1)) ?_
      refine rd_allocO (x := .agg [vi 0, vi 0, nilS, nilS, nilS]) M rfl rfl (fun ia wa ha Ma => ?_)
      refine rd_storeO (k := 0) (v := v1) Ma rfl rfl rfl (TR.cnt api_ControlNode.t r1) (fun hb1 Mb => ?_)
      replace Mb : Mem hb1 (⟨.op ia wa 0, 40, 5, [v1]⟩ :: (L ++ R)) := Mb
      refine rd_nil ?_
      refine pn_seq ?_
      refine rc_seq ?_
      refine rc_regionS ?_
      refine rs_step ?_
      refine rd_op (ov_move rfl) ?_
      refine rs_back ?_
      refine rs_step ?_
      refine rd_op (ov_loadh rfl (load_whole (k := 0) Mb rfl (TR.agg api_ControlNode.t r1))) ?_
      refine rs_back ?_
      have hn1 : ∀ y ∈ poN (ix c i), y ∈ poL c := fun y hy => poL_mem (ix_mem h0 h1) hy
      rw [poN_eq] at hn1
      obtain ⟨h2, L2, X2, E2, M2⟩ := HV _ _ _ s L _ hb1 (hG _ (hn1 _ List.mem_cons_self)) r1 hb (mem_in Mb)
      have X2' : FnX Try.prog g ([v1] ++ caps) hb1 (vb (step (ix c i) s).1) h2 := X2
      rw [preN_eq] at hres
      generalize hst : step (ix c i) s = st at *
      obtain ⟨b1, s1⟩ := st
      refine rs_callXc (az0 := [v1]) rfl rfl X2' ?_
      refine rs_step ?_
      refine rd_op (v := vb (!b1)) (ov_un rfl rfl) ?_
      refine rs_back ?_
      refine rs_step ?_
      refine rd_op (ov_move rfl) ?_
      refine rs_back ?_
      cases b1 with
      | false =>
        simp only [Bool.false_eq_true, if_false] at hres
        unfold ac48_G1 ac48_G2
        simp only [List.cons_append, List.nil_append]
        refine rs_step (rd_skip (b := true) rfl rfl (rs_back ?_))
        refine rs_step (rd_skip (b := true) rfl rfl (rs_back ?_))
        refine rs_step (rd_skip (b := true) rfl rfl (rs_back ?_))
        refine rs_step (rd_skip (b := true) rfl rfl (rs_back ?_))
        refine rs_step (rd_skip (b := true) rfl rfl (rs_back ?_))
        refine rs_step (rd_op (v := vb true) (ov_pick rfl rfl rfl rfl) (rs_back ?_))
        refine rs_step (rd_op (ov_move rfl) (rs_back ?_))
        refine rs_step (rd_skip (b := true) rfl rfl (rs_back ?_))
        refine rs_step (rd_skip (b := true) rfl rfl (rs_back ?_))
        refine rs_step (rd_skip (b := true) rfl rfl (rs_back ?_))
        refine rs_step (rd_skip (b := true) rfl rfl (rs_back ?_))
        refine rs_step (rd_skip (b := true) rfl rfl (rs_back ?_))
        refine rs_step (rd_op (v := vb true) (ov_pick rfl rfl rfl rfl) (rs_back ?_))
        refine rs_nil ?_
        refine pn_seq ?_
        refine rc_cond rfl (fun _ => ?_) (fun hc => by cases hc)
        refine rc_seq ?_
        refine rc_region ?_
        refine rd_op (v := vb false) (ov_move rfl) ?_
        refine rd_nil ?_
        refine pn_seq ?_
        subst hres
        refine rc_retX (.tmp rfl .nil) ⟨L2, rfl, ?_, ?_⟩
        · exact monoN mono (csl (ix c i).Then + (csl (ix c i).Else + csl (c.drop (i + 1).toNat))) (by rw [show k + (csl (ix c i).Then + (csl (ix c i).Else + csl (c.drop (i + 1).toNat))) = csl (ix c i).Then + (csl (ix c i).Else + (csl (c.drop (i + 1).toNat) + k)) by omega]; exact E2)
        · exact Mem.sub (mem_out M2) (.cons _ (List.Sublist.refl _))
      | true =>
        simp only [if_true] at hres
        unfold ac48_G1 ac48_G2
        simp only [List.cons_append, List.nil_append]
        have M2o := mem_out M2
        refine rs_step (rd_yes (b := false) rfl rfl (ov_faddrO rfl) (rs_back ?_))
        obtain ⟨v2, e2, r2⟩ := api_ControlNode.g_Then r1
        refine rs_step (rd_yes (b := false) rfl rfl (ov_loadf (k := 0) M2o rfl rfl e2) (rs_back ?_))
        refine rs_step (rd_yes (b := false) rfl rfl (ov_move rfl) (rs_back ?_))
        obtain ⟨h3, L3, X3, E3, M3⟩ := IH _ hlt.1 (fun x hx => hG x (hn1 x (List.mem_cons_of_mem _ (List.mem_append_left _ hx)))) _ v2 s1 L2 _ h2 r2 E2 M2
        generalize hp1 : preL step (ix c i).Then s1 = p1 at *
        obtain ⟨b2, s2⟩ := p1
        refine rs_ycallX (b := false) (az := [v2, .fn (.func g) [] caps]) (cap := []) rfl rfl rfl rfl X3 ?_
        refine rs_step (rd_yes (b := false) (v := vb (!b2)) rfl rfl (ov_un rfl rfl) (rs_back ?_))
        refine rs_step (rd_op (v := vb (!b2)) (ov_pick rfl rfl rfl (by cases b2 <;> rfl)) (rs_back ?_))
        refine rs_step (rd_op (ov_move rfl) (rs_back ?_))
        cases b2 with
        | false =>
          simp only [Bool.false_eq_true, if_false] at hres
          refine rs_step (rd_skip (b := true) rfl rfl (rs_back ?_))
          refine rs_step (rd_skip (b := true) rfl rfl (rs_back ?_))
          refine rs_step (rd_skip (b := true) rfl rfl (rs_back ?_))
          refine rs_step (rd_skip (b := true) rfl rfl (rs_back ?_))
          refine rs_step (rd_skip (b := true) rfl rfl (rs_back ?_))
          refine rs_step (rd_op (v := vb true) (ov_pick rfl rfl rfl rfl) (rs_back ?_))
          refine rs_nil ?_
          refine pn_seq ?_
          refine rc_cond rfl (fun _ => ?_) (fun hc => by cases hc)
          refine rc_seq ?_
          refine rc_region ?_
          refine rd_op (v := vb false) (ov_move rfl) ?_
          refine rd_nil ?_
          refine pn_seq ?_
          subst hres
          refine rc_retX (.tmp rfl .nil) ⟨L3, rfl, ?_, ?_⟩
          · exact monoN mono (csl (ix c i).Else + csl (c.drop (i + 1).toNat)) (by rw [show k + (csl (ix c i).Else + csl (c.drop (i + 1).toNat)) = csl (ix c i).Else + (csl (c.drop (i + 1).toNat) + k) by omega]; exact E3)
          · exact Mem.sub (mem_out M3) (.cons _ (List.Sublist.refl _))
        | true =>
          simp only [if_true] at hres
          have M3o := mem_out M3
          refine rs_step (rd_yes (b := false) rfl rfl (ov_faddrO rfl) (rs_back ?_))
          obtain ⟨v3, e3, r3⟩ := api_ControlNode.g_Else r1
          refine rs_step (rd_yes (b := false) rfl rfl (ov_loadf (k := 0) M3o rfl rfl e3) (rs_back ?_))
          refine rs_step (rd_yes (b := false) rfl rfl (ov_move rfl) (rs_back ?_))
          obtain ⟨h4, L4, X4, E4, M4⟩ := IH _ hlt.2 (fun x hx => hG x (hn1 x (List.mem_cons_of_mem _ (List.mem_append_right _ hx)))) _ v3 s2 L3 _ h3 r3 E3 M3
          generalize hp2 : preL step (ix c i).Else s2 = p2 at *
          obtain ⟨b3, s3⟩ := p2
          refine rs_ycallX (b := false) (az := [v3, .fn (.func g) [] caps]) (cap := []) rfl rfl rfl rfl X4 ?_
          refine rs_step (rd_yes (b := false) (v := vb (!b3)) rfl rfl (ov_un rfl rfl) (rs_back ?_))
          refine rs_step (rd_op (v := vb (!b3)) (ov_pick rfl rfl rfl (by cases b3 <;> rfl)) (rs_back ?_))
          refine rs_nil ?_
          refine pn_seq ?_
          cases b3 with
          | false =>
            simp only [Bool.false_eq_true, if_false] at hres
            refine rc_cond rfl (fun _ => ?_) (fun hc => by cases hc)
            refine rc_seq ?_
            refine rc_region ?_
            refine rd_op (v := vb false) (ov_move rfl) ?_
            refine rd_nil ?_
            refine pn_seq ?_
            subst hres
            refine rc_retX (.tmp rfl .nil) ⟨L4, rfl, ?_, ?_⟩
            · exact monoN mono (csl (c.drop (i + 1).toNat)) (by rw [Nat.add_comm]; exact E4)
            · exact Mem.sub (mem_out M4) (.cons _ (List.Sublist.refl _))
          | true =>
            simp only [if_true] at hres
            refine rc_cond rfl (fun hc => by cases hc) (fun _ => ?_)
            refine rc_skip ?_
            refine pn_blk ?_
            refine pn_seq ?_
            refine rc_region ?_
            refine rd_op (ov_bin rfl rfl i_add) ?_
            refine rd_op (ov_move rfl) ?_
            refine rd_nil ?_
            refine pn_again ?_
            have hinc : wr (i + 1) = i + 1 := wr_of (by omega) (by omega)
            rw [hinc]
            refine rc_weak ?_ (ih (i + 1) s3 L4 _ (by omega) (by omega) E4 (Mem.sub (mem_out M4) (.cons _ (List.Sublist.refl _))) hres)
            exact ((sub_cons rfl (sub_cons rfl (sub_cons rfl (sub_cons rfl (sub_nil _))))))
    · exfalso
      simp only [decide_eq_false_iff_not] at hc
      omega
theorem f48_pre (mono : ∀ k s L, ME (k + 1) s L → ME k s L) (HV : VIS Try.prog g caps step ME G) : ∀ (n : Nat) (c : List api_ControlNode), csl c < n → (∀ x ∈ poL c, G x) → VPRE g caps step ME c
  | 0, c, hn, _ => by omega
  | n + 1, c, hn, hG => by
    intro k vc s L R h rc hM M
    have IH : ∀ c', csl c' < csl c → (∀ x ∈ poL c', G x) → VPRE g caps step ME c' := fun c' hc hg => f48_pre mono HV n c' (by omega) hg
    obtain ⟨res, hres⟩ : ∃ res, preL step c s = res := ⟨_, rfl⟩
    suffices H : RC Try.prog ac48 [] (retPost Try.prog [(4, none)] fun r h' => ∃ L2, r = vb res.1 ∧ ME k res.2 L2 ∧ Mem h' (L2 ++ R)) (argE 0 [vc, .fn (.func g) [] caps]) h by
      obtain ⟨r, h2, X, L2, hr, hE, hM2⟩ := fnX text48 (by simp) H
      rw [hres]
      subst hr
      exact ⟨h2, L2, X, hE, hM2⟩
    unfold ac48
    refine rc_seq ?_
    refine rc_region ?_
    refine rd_op (v := vb false) (ov_move rfl) ?_
    refine rd_nil ?_
    refine pn_seq ?_
    refine rc_seq ?_
    refine rc_seq ?_
    refine rc_region ?_
    refine rd_op (ov_move rfl) ?_
    refine rd_op (ov_bi rfl (sl_len rc Try.underlying28 _)) ?_
    refine rd_op (v := vi 0) (ov_move rfl) ?_
    refine rd_nil ?_
    refine pn_seq ?_
    refine rc_block ?_
    refine rc_weak ?_ (pre_loop mono HV rc hG IH (k := k) ?_ (Int.toNat ((c.length : Int) - 0)) 0 s L h rfl (by omega) hM M hres)
    · exact ((sub_cons rfl (sub_cons rfl (sub_cons rfl (sub_cons rfl (sub_nil _))))))
    · intro h2 L2 hE ht M2
      refine px_blk ?_
      refine pn_seq ?_
      refine rc_seq ?_
      refine rc_region ?_
      refine rd_op (v := vb true) (ov_move rfl) ?_
      refine rd_nil ?_
      refine pn_seq ?_
      exact rc_retX (.tmp rfl .nil) ⟨L2, by rw [ht]; rfl, hE, M2⟩
end
/-- Several operations at once in a region whose state may be told another way. -/
theorem wpS_of_Dl {P : Program} {r : List AOper} {K : (Nat → PV) → Heap → Prop} : ∀ (l : List AOper) {T : Nat → PV} {h : Heap}, wpD P l T h (fun T h => wpS P r T h K) → wpS P (l ++ r) T h K
  | [], T, h, H => H
  | o :: l, T, h, H => by
    obtain ⟨g, hg, h1, h2⟩ := H
    refine ⟨T, h, Wk.refl T h, g, hg, fun e => .inl ?_, fun e => wpS_of_Dl l (h2 e)⟩
    obtain ⟨v, h', k1, k2⟩ := OpD_oneU (h1 e)
    exact k2 _ (wpS_of_Dl l k1)
theorem rs_chunk {P : Program} {S : List Fr} {Q : Post} {E : TEnv} {h : Heap} {l r : List AOper} (k : RD P (l ++ []) (bk P r S Q :: S) Q E h) : RS P (l ++ r) S Q E h := fun T hT => wpS_of_Dl l (by have := k T hT; rw [List.append_nil] at this; exact this)
theorem eq_nil56 (ad : Option Addr) (ox oy : Operand) : ∃ b, binF Try.prog .eql 56 ox oy (.sc (.slice ad 0 0)) nilS = some (vb b) := by
  cases ad with
  | none => exact ⟨true, by kernel_rfl⟩
  | some a => exact ⟨false, by cases a; kernel_rfl⟩
theorem eq_fs56 (tg : Bool) (es : List PV) (ox oy : Operand) : binF Try.prog .eql 56 ox oy (.fs tg es) nilS = some (vb false) := rfl
theorem eq_any56 {l : List api_Guard} {v : PV} (r : (tSl api_Guard.t).R l v) (ox oy : Operand) : ∃ b, binF Try.prog .eql 56 ox oy v nilS = some (vb b) ∧ (b = true → l = []) := by
  obtain ⟨⟨es, he, hl⟩, hb⟩ := r
  rcases he with ⟨ad, rfl, rfl⟩ | ⟨tg, rfl⟩
  · obtain ⟨b, h⟩ := eq_nil56 ad ox oy
    refine ⟨b, h, fun _ => ?_⟩
    cases l with
    | nil => rfl
    | cons _ _ => simp [All2] at hl
  · exact ⟨false, eq_fs56 tg es ox oy, fun h => by cases h⟩
/-- slices_Clone__api_Guard_api_Guard_: told with what lies in memory of one's own. -/
def RF64x (R_ : List Ent) (res : List api_Guard) (r : PV) (h : Heap) : Prop := ∃ asR0_ : PV, ∃ esR0_ : List PV, Mem h (⟨asR0_, 60, 2, esR0_⟩ :: R_) ∧ (All2 api_Guard.t.R res esR0_) ∧ (isL asR0_ = true) ∧ (res.length ≤ 4611686018427387904) ∧ (Wri asR0_ esR0_) ∧ r = asR0_
theorem f64x_ok {x0 : List api_Guard} {v0 : PV} {R_ : List Ent} {h_ : Heap} (r0 : (tSl api_Guard.t).R x0 v0) (M_ : Mem h_ R_) (hb : x0.length ≤ 2000000) : ∃ r h2_, FnX Try.prog 64 [v0] h_ r h2_ ∧ RF64x R_ (slices_Clone__api_Guard_api_Guard_ x0) r h2_ := by
  suffices H : RC Try.prog ac64 [] (retPost Try.prog [(2, none)] (RF64x R_ x0)) (argE 0 [v0]) h_ by
    exact fnX text64 (by simp) H
  unfold ac64
  refine rc_seq ?_
  refine rc_region ?_
  refine rd_op (v := nilS) (ov_move rfl) ?_
  refine rd_nil ?_
  refine pn_seq ?_
  refine rc_seq ?_
  refine rc_seq ?_
  refine rc_region ?_
  refine rd_op (ov_move rfl) ?_
  obtain ⟨b, e1, e2⟩ := eq_any56 r0 (.tmp 3) (.const (.slice none 0 0))
  refine rd_op (ov_bin rfl rfl e1) ?_
  refine rd_nil ?_
  refine pn_seq ?_
  refine rc_cond rfl (fun hc => ?_) (fun hc => ?_)
  · have hx := e2 hc
    refine rc_seq ?_
    refine rc_region ?_
    refine rd_op (v := nilS) (ov_move rfl) ?_
    refine rd_nil ?_
    refine pn_seq ?_
    have MA := mem_acc (sz := 2) (es := []) M_ 60 (.inl ⟨none, rfl, rfl⟩) (by simp)
    exact rc_retX (.tmp rfl .nil) ⟨nilS, [], MA, by rw [hx]; exact trivial, rfl, by omega, .inl rfl, rfl⟩
  · refine rc_skip ?_
    refine pn_seq ?_
    refine rc_seq ?_
    refine rc_region ?_
    refine rd_op (v := .fs true []) (ov_bslice rfl all_nil) ?_
    refine rd_op (ov_move rfl) ?_
    have MA := mem_acc (sz := 2) (es := []) M_ 60 (.inr rfl) (by simp)
    obtain ⟨nw, sr, ar⟩ := src_of (t := api_Guard.t) (h := h_) r0
    have ff : fits (([] : List PV).length + nw.length) 16 = true := by rw [All2.length_eq ar]; (try simp only [List.length_cons, List.length_nil]); exact fits_of (by omega) (by omega)
    refine rd_appW (k := 0) (es := ([] : List PV)) (news := nw) MA rfl rfl rfl rfl (.inl rfl) sr ff (fun a h n wr M => ?_)
    refine rd_op (ov_move rfl) ?_
    refine rd_nil ?_
    refine pn_seq ?_
    exact rc_retX (.tmp rfl .nil) ⟨a, _, M, ar, n, by omega, wr, rfl⟩
/-- slices_Clone__api_Guard_api_Guard_: told az0 a value. -/
theorem f64_ok {x0 : List api_Guard} {v0 : PV} (r0 : (tSl api_Guard.t).R x0 v0) (hb : x0.length ≤ 2000000) : ∃ r, FnR Try.prog 64 [v0] r ∧ (tSl api_Guard.t).R (slices_Clone__api_Guard_api_Guard_ x0) r := by
  suffices H : RC Try.prog ac64 [] (QR Try.prog [(2, none)] (fun r => (tSl api_Guard.t).R x0 r)) (argE 0 [v0]) ⟨0, []⟩ by
    exact fnE text64 (by simp) H
  unfold ac64
  refine rc_seq ?_
  refine rc_region ?_
  refine rd_op (v := nilS) (ov_move rfl) ?_
  refine rd_nil ?_
  refine pn_seq ?_
  refine rc_seq ?_
  refine rc_seq ?_
  refine rc_region ?_
  refine rd_op (ov_move rfl) ?_
  obtain ⟨b, e1, e2⟩ := eq_any56 r0 (.tmp 3) (.const (.slice none 0 0))
  refine rd_op (ov_bin rfl rfl e1) ?_
  refine rd_nil ?_
  refine pn_seq ?_
  refine rc_cond rfl (fun hc => ?_) (fun hc => ?_)
  · have hx := e2 hc
    refine rc_seq ?_
    refine rc_region ?_
    refine rd_op (v := nilS) (ov_move rfl) ?_
    refine rd_nil ?_
    refine pn_seq ?_
    exact rc_retV (.tmp rfl .nil) (deep_closed rfl) (by rw [hx]; exact sl_nil)
  · refine rc_skip ?_
    refine pn_seq ?_
    refine rc_seq ?_
    refine rc_region ?_
    refine rd_op (v := .fs true []) (ov_bslice rfl all_nil) ?_
    refine rd_op (ov_move rfl) ?_
    have MA := mem_acc (sz := 2) (es := []) (Mem.nil ⟨0, []⟩) 60 (.inr rfl) (by simp)
    obtain ⟨nw, sr, ar⟩ := src_of (t := api_Guard.t) (h := ⟨0, []⟩) r0
    have ff : fits (([] : List PV).length + nw.length) 16 = true := by rw [All2.length_eq ar]; (try simp only [List.length_cons, List.length_nil]); exact fits_of (by omega) (by omega)
    refine rd_appW (k := 0) (es := ([] : List PV)) (news := nw) MA rfl rfl rfl rfl (.inl rfl) sr ff (fun a h n wr M => ?_)
    refine rd_op (ov_move rfl) ?_
    refine rd_nil ?_
    refine pn_seq ?_
    obtain ⟨v1, d1, r1⟩ := own_sl (P := Try.prog) (k := 0) (t := api_Guard.t) M rfl n ar (Nat.le_trans (show x0.length ≤ 4611686018427387904 by omega) (by decide))
    exact rc_retV (.tmp rfl .nil) d1 r1
theorem eq_nil38 (ad : Option Addr) (ox oy : Operand) : ∃ b, binF Try.prog .eql 38 ox oy (.sc (.slice ad 0 0)) nilS = some (vb b) := by
  cases ad with
  | none => exact ⟨true, by kernel_rfl⟩
  | some a => exact ⟨false, by cases a; kernel_rfl⟩
theorem eq_fs38 (tg : Bool) (es : List PV) (ox oy : Operand) : binF Try.prog .eql 38 ox oy (.fs tg es) nilS = some (vb false) := rfl
theorem eq_any38 {l : List api_ExprNode} {v : PV} (r : (tSl api_ExprNode.t).R l v) (ox oy : Operand) : ∃ b, binF Try.prog .eql 38 ox oy v nilS = some (vb b) ∧ (b = true → l = []) := by
  obtain ⟨⟨es, he, hl⟩, hb⟩ := r
  rcases he with ⟨ad, rfl, rfl⟩ | ⟨tg, rfl⟩
  · obtain ⟨b, h⟩ := eq_nil38 ad ox oy
    refine ⟨b, h, fun _ => ?_⟩
    cases l with
    | nil => rfl
    | cons _ _ => simp [All2] at hl
  · exact ⟨false, eq_fs38 tg es ox oy, fun h => by cases h⟩
/-- slices_Clone__api_ExprNode_api_ExprNode_: told with what lies in memory of one's own. -/
def RF65x (R_ : List Ent) (res : List api_ExprNode) (r : PV) (h : Heap) : Prop := ∃ asR0_ : PV, ∃ esR0_ : List PV, Mem h (⟨asR0_, 106, 3, esR0_⟩ :: R_) ∧ (All2 api_ExprNode.t.R res esR0_) ∧ (isL asR0_ = true) ∧ (res.length ≤ 4611686018427387904) ∧ (Wri asR0_ esR0_) ∧ r = asR0_
theorem f65x_ok {x0 : List api_ExprNode} {v0 : PV} {R_ : List Ent} {h_ : Heap} (r0 : (tSl api_ExprNode.t).R x0 v0) (M_ : Mem h_ R_) (hb : x0.length ≤ 2000000) : ∃ r h2_, FnX Try.prog 65 [v0] h_ r h2_ ∧ RF65x R_ (slices_Clone__api_ExprNode_api_ExprNode_ x0) r h2_ := by
  suffices H : RC Try.prog ac65 [] (retPost Try.prog [(2, none)] (RF65x R_ x0)) (argE 0 [v0]) h_ by
    exact fnX text65 (by simp) H
  unfold ac65
  refine rc_seq ?_
  refine rc_region ?_
  refine rd_op (v := nilS) (ov_move rfl) ?_
  refine rd_nil ?_
  refine pn_seq ?_
  refine rc_seq ?_
  refine rc_seq ?_
  refine rc_region ?_
  refine rd_op (ov_move rfl) ?_
  obtain ⟨b, e1, e2⟩ := eq_any38 r0 (.tmp 3) (.const (.slice none 0 0))
  refine rd_op (ov_bin rfl rfl e1) ?_
  refine rd_nil ?_
  refine pn_seq ?_
  refine rc_cond rfl (fun hc => ?_) (fun hc => ?_)
  · have hx := e2 hc
    refine rc_seq ?_
    refine rc_region ?_
    refine rd_op (v := nilS) (ov_move rfl) ?_
    refine rd_nil ?_
    refine pn_seq ?_
    have MA := mem_acc (sz := 3) (es := []) M_ 106 (.inl ⟨none, rfl, rfl⟩) (by simp)
    exact rc_retX (.tmp rfl .nil) ⟨nilS, [], MA, by rw [hx]; exact trivial, rfl, by omega, .inl rfl, rfl⟩
  · refine rc_skip ?_
    refine pn_seq ?_
    refine rc_seq ?_
    refine rc_region ?_
    refine rd_op (v := .fs true []) (ov_bslice rfl all_nil) ?_
    refine rd_op (ov_move rfl) ?_
    have MA := mem_acc (sz := 3) (es := []) M_ 106 (.inr rfl) (by simp)
    obtain ⟨nw, sr, ar⟩ := src_of (t := api_ExprNode.t) (h := h_) r0
    have ff : fits (([] : List PV).length + nw.length) 24 = true := by rw [All2.length_eq ar]; (try simp only [List.length_cons, List.length_nil]); exact fits_of (by omega) (by omega)
    refine rd_appW (k := 0) (es := ([] : List PV)) (news := nw) MA rfl rfl rfl rfl (.inl rfl) sr ff (fun a h n wr M => ?_)
    refine rd_op (ov_move rfl) ?_
    refine rd_nil ?_
    refine pn_seq ?_
    exact rc_retX (.tmp rfl .nil) ⟨a, _, M, ar, n, by omega, wr, rfl⟩
/-- slices_Clone__api_ExprNode_api_ExprNode_: told az0 a value. -/
theorem f65_ok {x0 : List api_ExprNode} {v0 : PV} (r0 : (tSl api_ExprNode.t).R x0 v0) (hb : x0.length ≤ 2000000) : ∃ r, FnR Try.prog 65 [v0] r ∧ (tSl api_ExprNode.t).R (slices_Clone__api_ExprNode_api_ExprNode_ x0) r := by
  suffices H : RC Try.prog ac65 [] (QR Try.prog [(2, none)] (fun r => (tSl api_ExprNode.t).R x0 r)) (argE 0 [v0]) ⟨0, []⟩ by
    exact fnE text65 (by simp) H
  unfold ac65
  refine rc_seq ?_
  refine rc_region ?_
  refine rd_op (v := nilS) (ov_move rfl) ?_
  refine rd_nil ?_
  refine pn_seq ?_
  refine rc_seq ?_
  refine rc_seq ?_
  refine rc_region ?_
  refine rd_op (ov_move rfl) ?_
  obtain ⟨b, e1, e2⟩ := eq_any38 r0 (.tmp 3) (.const (.slice none 0 0))
  refine rd_op (ov_bin rfl rfl e1) ?_
  refine rd_nil ?_
  refine pn_seq ?_
  refine rc_cond rfl (fun hc => ?_) (fun hc => ?_)
  · have hx := e2 hc
    refine rc_seq ?_
    refine rc_region ?_
    refine rd_op (v := nilS) (ov_move rfl) ?_
    refine rd_nil ?_
    refine pn_seq ?_
    exact rc_retV (.tmp rfl .nil) (deep_closed rfl) (by rw [hx]; exact sl_nil)
  · refine rc_skip ?_
    refine pn_seq ?_
    refine rc_seq ?_
    refine rc_region ?_
    refine rd_op (v := .fs true []) (ov_bslice rfl all_nil) ?_
    refine rd_op (ov_move rfl) ?_
    have MA := mem_acc (sz := 3) (es := []) (Mem.nil ⟨0, []⟩) 106 (.inr rfl) (by simp)
    obtain ⟨nw, sr, ar⟩ := src_of (t := api_ExprNode.t) (h := ⟨0, []⟩) r0
    have ff : fits (([] : List PV).length + nw.length) 24 = true := by rw [All2.length_eq ar]; (try simp only [List.length_cons, List.length_nil]); exact fits_of (by omega) (by omega)
    refine rd_appW (k := 0) (es := ([] : List PV)) (news := nw) MA rfl rfl rfl rfl (.inl rfl) sr ff (fun a h n wr M => ?_)
    refine rd_op (ov_move rfl) ?_
    refine rd_nil ?_
    refine pn_seq ?_
    obtain ⟨v1, d1, r1⟩ := own_sl (P := Try.prog) (k := 0) (t := api_ExprNode.t) M rfl n ar (Nat.le_trans (show x0.length ≤ 4611686018427387904 by omega) (by decide))
    exact rc_retV (.tmp rfl .nil) d1 r1
end Go.Proofs.Ytkgnjpoafilicaa
