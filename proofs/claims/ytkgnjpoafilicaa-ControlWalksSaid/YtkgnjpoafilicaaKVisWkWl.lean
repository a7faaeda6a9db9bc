/-
  Hand-written texts in one.
-/
import Derived.Test.YtkgnjpoafilicaaL10Text
import Derived.Test.YtkgnjpoafilicaaKMuWm
import Derived.Test.YtkgnjpoafilicaaPbC
import Derived.Test.YtkgnjpoafilicaaKMuWm
set_option linter.unusedVariables false
set_option linter.unusedSimpArgs false
set_option maxRecDepth 100000
namespace Go.Proofs.Ytkgnjpoafilicaa
open Go Go.Pb Go.RowKit
theorem mem_perm {h : Heap} {L L' : List Ent} (M : Mem h L) (p : L.Perm L') : Mem h L' :=
  ⟨fun e he => M.ent e (p.mem_iff.2 he), (p.pairwise_iff fun ha => ha.symm).1 M.dis⟩
theorem mem_in {h : Heap} {e : Ent} {L R : List Ent} (M : Mem h (e :: (L ++ R))) : Mem h (L ++ (e :: R)) := mem_perm M List.perm_middle.symm
theorem mem_out {h : Heap} {e : Ent} {L R : List Ent} (M : Mem h (L ++ (e :: R))) : Mem h (e :: (L ++ R)) := mem_perm M List.perm_middle
theorem rs_ycallX {P : Program} {S : List Fr} {Q : Post} {E : TEnv} {h : Heap} {r : List AOper} {hf : Bool} {d t : Nat} {b w : Bool} {f : Operand} {args : List Operand} {g : FuncId} {az cap : List PV} {v : PV} {h' : Heap} (hg : Go.Pb.look t E = some (vb b)) (hb : b = w) (ef : evE E f = some (.fn (.func g) [] cap)) (ea : evL E args = some az) (H : FnX P g (az ++ cap) h v h') (k : RS P r S Q ((d, v) :: E) h') : RS P (⟨some d, .call f args, some (t, w), hf⟩ :: r) S Q E h := fun T hT => by
  subst hb
  refine ⟨T, h, Wk.refl T h, true, ?_, fun _ => .inr (.inl ⟨f, args, g, az ++ cap, v, h', rfl, by rw [evE_ok hT ef, evL_ok hT ea]; simp [callee], H, k _ (hT.put d v)⟩), fun e => by cases e⟩
  show guardF T (some (t, b)) = some true
  simp only [guardF]
  rw [hT t _ hg]
  simp
/-- What a visitor must do: it takes one node off what is allowed, and turns its own memory az0 the plain step says. -/
def VIS (P : Program) {σ : Type} (g : FuncId) (caps : List PV) (step : api_ControlNode → σ → Bool × σ) (ME : Nat → σ → List Ent → Prop) (G : api_ControlNode → Prop) : Prop :=
  ∀ (k : Nat) (a : api_ControlNode) (va : PV) (s : σ) (L R : List Ent) (h : Heap), G a → api_ControlNode.t.R a va → ME (k + 1) s L → Mem h (L ++ R) → ∃ h2 L2, FnX P g ([va] ++ caps) h (vb (step a s).1) h2 ∧ ME k (step a s).2 L2 ∧ Mem h2 (L2 ++ R)
def VPRE {σ : Type} (g : FuncId) (caps : List PV) (step : api_ControlNode → σ → Bool × σ) (ME : Nat → σ → List Ent → Prop) (c : List api_ControlNode) : Prop :=
  ∀ (k : Nat) (vc : PV) (s : σ) (L R : List Ent) (h : Heap), (tSl api_ControlNode.t).R c vc → ME (csl c + k) s L → Mem h (L ++ R) → ∃ h2 L2, FnX Try.prog 48 [vc, .fn (.func g) [] caps] h (vb (preL step c s).1) h2 ∧ ME k (preL step c s).2 L2 ∧ Mem h2 (L2 ++ R)
section
variable {σ : Type} {g : FuncId} {caps : List PV} {step : api_ControlNode → σ → Bool × σ} {ME : Nat → σ → List Ent → Prop} {G : api_ControlNode → Prop}
theorem monoN (mono : ∀ k s L, ME (k + 1) s L → ME k s L) {k : Nat} {s : σ} {L : List Ent} : ∀ j, ME (k + j) s L → ME k s L
  | 0, h => h
  | j + 1, h => monoN mono j (mono _ _ _ h)
theorem pre_loop (mono : ∀ k s L, ME (k + 1) s L → ME k s L) (HV : VIS Try.prog g caps step ME G) {c : List api_ControlNode} {vc : PV} (rc : (tSl api_ControlNode.t).R c vc) (hG : ∀ x ∈ poL c, G x) (IH : ∀ c', csl c' < csl c → (∀ x ∈ poL c', G x) → VPRE g caps step ME c') {R : List Ent} {k : Nat} {S : List Fr} {res : Bool × σ}
    (hK0 : ∀ (h : Heap) (L : List Ent), ME k res.2 L → res.1 = true → Mem h (L ++ R) → PX Try.prog 0 S (retPost Try.prog [(4, none)] fun r h' => ∃ L2, r = vb res.1 ∧ ME k res.2 L2 ∧ Mem h' (L2 ++ R)) [] h) :
    ∀ (m : Nat) (i : Int) (s : σ) (L : List Ent) (h : Heap), m = Int.toNat ((c.length : Int) - i) → 0 ≤ i → ME (csl (c.drop i.toNat) + k) s L → Mem h (L ++ R) → preL step (c.drop i.toNat) s = res →
      RC Try.prog (.loop ac48_L1) S (retPost Try.prog [(4, none)] fun r h' => ∃ L2, r = vb res.1 ∧ ME k res.2 L2 ∧ Mem h' (L2 ++ R)) [(9, vi i), (8, vi (c.length : Int)), (7, vc), (1, .fn (.func g) [] caps)] h := by
  have hbd := sl_bound rc
  intro m
  induction m with
  | zero =>
    intro i s L h hm h0 hM M hres
    have hd : c.drop i.toNat = [] := List.drop_eq_nil_of_le (by omega)
    rw [hd, preL_nil] at hres
    rw [hd] at hM
    refine rc_loop ?_
    unfold ac48_L1
    refine rc_seq ?_
    refine rc_region ?_
    refine rd_op (ov_bin rfl rfl i_lss) ?_
    refine rd_nil ?_
    refine pn_seq ?_
    refine rc_seq ?_
    refine rc_cond rfl (fun hc => ?_) (fun hc => ?_)
    · exfalso
      simp only [decide_eq_true_eq] at hc
      omega
    · refine rc_exit ?_
      refine px_seq ?_
      refine px_again ?_
      subst hres
      refine px_weak (sub_nil _) (hK0 _ L ?_ rfl M)
      simpa [csl] using hM
  | succ m ih =>
    intro i s L h hm h0 hM M hres
    have h1 : i < c.length := by omega
    have hd := drop_ix h0 h1
    rw [hd, preL_cons] at hres
    have hb : ME (csl (ix c i).Then + (csl (ix c i).Else + (csl (c.drop (i + 1).toNat) + k)) + 1) s L := by
      rw [hd, csl, csn_eq] at hM
      rw [show csl (ix c i).Then + (csl (ix c i).Else + (csl (c.drop (i + 1).toNat) + k)) + 1 = 1 + csl (ix c i).Then + csl (ix c i).Else + csl (c.drop (i + 1).toNat) + k by omega]
      exact hM
    have hlt := csl_ix h0 h1
    refine rc_loop ?_
    unfold ac48_L1
    refine rc_seq ?_
    refine rc_region ?_
    refine rd_op (ov_bin rfl rfl i_lss) ?_
    refine rd_nil ?_
    refine pn_seq ?_
    refine rc_seq ?_
    refine rc_cond rfl (fun hc => ?_) (fun hc => ?_)
    · refine rc_skip ?_
      refine pn_seq ?_
      refine rc_seq ?_
      refine rc_block ?_
      refine rc_seq ?_
      refine rc_region ?_
      obtain ⟨v1, e1, r1⟩ := sl_idx (i := i) rc h0 h1
      refine rd_op (ov_iaddr rfl rfl e1) ?_
      refine rd_op (ov_load rfl (TR.cnt api_ControlNode.t r1) (TR.agg api_ControlNode.t r1)) ?_
      refine rd_allocO (x := .agg [vi 0, vi 0, nilS, nilS, nilS]) M rfl rfl (fun ia wa ha Ma => ?_)
      refine rd_storeO (k := 0) (v := v1) Ma rfl rfl rfl (TR.cnt api_ControlNode.t r1) (fun hb1 Mb => ?_)
      replace Mb : Mem hb1 (⟨.op ia wa 0, 40, 5, [v1]⟩ :: (L ++ R)) := Mb
      refine rd_nil ?_
      refine pn_seq ?_
      refine rc_seq ?_
      refine rc_regionS ?_
      refine rs_step ?_
      refine rd_op (ov_move rfl) ?_
      refine rs_back ?_
      refine rs_step ?_
      refine rd_op (ov_loadh rfl (load_whole (k := 0) Mb rfl (TR.agg api_ControlNode.t r1))) ?_
      refine rs_back ?_
      have hn1 : ∀ y ∈ poN (ix c i), y ∈ poL c := fun y hy => poL_mem (ix_mem h0 h1) hy
      rw [poN_eq] at hn1
      obtain ⟨h2, L2, X2, E2, M2⟩ := HV _ _ _ s L _ hb1 (hG _ (hn1 _ List.mem_cons_self)) r1 hb (mem_in Mb)
      have X2' : FnX Try.prog g ([v1] ++ caps) hb1 (vb (step (ix c i) s).1) h2 := X2
      rw [preN_eq] at hres
      generalize hst : step (ix c i) s = st at *
      obtain ⟨b1, s1⟩ := st
      refine rs_callXc (az0 := [v1]) rfl rfl X2' ?_
      refine rs_step ?_
      refine rd_op (v := vb (!b1)) (ov_un rfl rfl) ?_
      refine rs_back ?_
      refine rs_step ?_
      refine rd_op (ov_move rfl) ?_
      refine rs_back ?_
      cases b1 with
      | false =>
        simp only [Bool.false_eq_true, if_false] at hres
        unfold ac48_G1 ac48_G2
        simp only [List.cons_append, List.nil_append]
        refine rs_step (rd_skip (b := true) rfl rfl (rs_back ?_))
        refine rs_step (rd_skip (b := true) rfl rfl (rs_back ?_))
        refine rs_step (rd_skip (b := true) rfl rfl (rs_back ?_))
        refine rs_step (rd_skip (b := true) rfl rfl (rs_back ?_))
        refine rs_step (rd_skip (b := true) rfl rfl (rs_back ?_))
        refine rs_step (rd_op (v := vb true) (ov_pick rfl rfl rfl rfl) (rs_back ?_))
        refine rs_step (rd_op (ov_move rfl) (rs_back ?_))
        refine rs_step (rd_skip (b := true) rfl rfl (rs_back ?_))
        refine rs_step (rd_skip (b := true) rfl rfl (rs_back ?_))
        refine rs_step (rd_skip (b := true) rfl rfl (rs_back ?_))
        refine rs_step (rd_skip (b := true) rfl rfl (rs_back ?_))
        refine rs_step (rd_skip (b := true) rfl rfl (rs_back ?_))
        refine rs_step (rd_op (v := vb true) (ov_pick rfl rfl rfl rfl) (rs_back ?_))
        refine rs_nil ?_
        refine pn_seq ?_
        refine rc_cond rfl (fun _ => ?_) (fun hc => by cases hc)
        refine rc_seq ?_
        refine rc_region ?_
        refine rd_op (v := vb false) (ov_move rfl) ?_
        refine rd_nil ?_
        refine pn_seq ?_
        subst hres
        refine rc_retX (.tmp rfl .nil) ⟨L2, rfl, ?_, ?_⟩
        · exact monoN mono (csl (ix c i).Then + (csl (ix c i).Else + csl (c.drop (i + 1).toNat))) (by rw [show k + (csl (ix c i).Then + (csl (ix c i).Else + csl (c.drop (i + 1).toNat))) = csl (ix c i).Then + (csl (ix c i).Else + (csl (c.drop (i + 1).toNat) + k)) by omega]; exact E2)
        · exact Mem.sub (mem_out M2) (.cons _ (List.Sublist.refl _))
      | true =>
        simp only [if_true] at hres
        unfold ac48_G1 ac48_G2
        simp only [List.cons_append, List.nil_append]
        have M2o := mem_out M2
        refine rs_step (rd_yes (b := false) rfl rfl (ov_faddrO rfl) (rs_back ?_))
        obtain ⟨v2, e2, r2⟩ := api_ControlNode.g_Then r1
        refine rs_step (rd_yes (b := false) rfl rfl (ov_loadf (k := 0) M2o rfl rfl e2) (rs_back ?_))
        refine rs_step (rd_yes (b := false) rfl rfl (ov_move rfl) (rs_back ?_))
        obtain ⟨h3, L3, X3, E3, M3⟩ := IH _ hlt.1 (fun x hx => hG x (hn1 x (List.mem_cons_of_mem _ (List.mem_append_left _ hx)))) _ v2 s1 L2 _ h2 r2 E2 M2
        generalize hp1 : preL step (ix c i).Then s1 = p1 at *
        obtain ⟨b2, s2⟩ := p1
        refine rs_ycallX (b := false) (az := [v2, .fn (.func g) [] caps]) (cap := []) rfl rfl rfl rfl X3 ?_
        refine rs_step (rd_yes (b := false) (v := vb (!b2)) rfl rfl (ov_un rfl rfl) (rs_back ?_))
        refine rs_step (rd_op (v := vb (!b2)) (ov_pick rfl rfl rfl (by cases b2 <;> rfl)) (rs_back ?_))
        refine rs_step (rd_op (ov_move rfl) (rs_back ?_))
        cases b2 with
        | false =>
          simp only [Bool.false_eq_true, if_false] at hres
          refine rs_step (rd_skip (b := true) rfl rfl (rs_back ?_))
          refine rs_step (rd_skip (b := true) rfl rfl (rs_back ?_))
          refine rs_step (rd_skip (b := true) rfl rfl (rs_back ?_))
          refine rs_step (rd_skip (b := true) rfl rfl (rs_back ?_))
          refine rs_step (rd_skip (b := true) rfl rfl (rs_back ?_))
          refine rs_step (rd_op (v := vb true) (ov_pick rfl rfl rfl rfl) (rs_back ?_))
          refine rs_nil ?_
          refine pn_seq ?_
          refine rc_cond rfl (fun _ => ?_) (fun hc => by cases hc)
          refine rc_seq ?_
          refine rc_region ?_
          refine rd_op (v := vb false) (ov_move rfl) ?_
          refine rd_nil ?_
          refine pn_seq ?_
          subst hres
          refine rc_retX (.tmp rfl .nil) ⟨L3, rfl, ?_, ?_⟩
          · exact monoN mono (csl (ix c i).Else + csl (c.drop (i + 1).toNat)) (by rw [show k + (csl (ix c i).Else + csl (c.drop (i + 1).toNat)) = csl (ix c i).Else + (csl (c.drop (i + 1).toNat) + k) by omega]; exact E3)
          · exact Mem.sub (mem_out M3) (.cons _ (List.Sublist.refl _))
        | true =>
          simp only [if_true] at hres
          have M3o := mem_out M3
          refine rs_step (rd_yes (b := false) rfl rfl (ov_faddrO rfl) (rs_back ?_))
          obtain ⟨v3, e3, r3⟩ := api_ControlNode.g_Else r1
          refine rs_step (rd_yes (b := false) rfl rfl (ov_loadf (k := 0) M3o rfl rfl e3) (rs_back ?_))
          refine rs_step (rd_yes (b := false) rfl rfl (ov_move rfl) (rs_back ?_))
          obtain ⟨h4, L4, X4, E4, M4⟩ := IH _ hlt.2 (fun x hx => hG x (hn1 x (List.mem_cons_of_mem _ (List.mem_append_right _ hx)))) _ v3 s2 L3 _ h3 r3 E3 M3
          generalize hp2 : preL step (ix c i).Else s2 = p2 at *
          obtain ⟨b3, s3⟩ := p2
          refine rs_ycallX (b := false) (az := [v3, .fn (.func g) [] caps]) (cap := []) rfl rfl rfl rfl X4 ?_
          refine rs_step (rd_yes (b := false) (v := vb (!b3)) rfl rfl (ov_un rfl rfl) (rs_back ?_))
          refine rs_step (rd_op (v := vb (!b3)) (ov_pick rfl rfl rfl (by cases b3 <;> rfl)) (rs_back ?_))
          refine rs_nil ?_
          refine pn_seq ?_
          cases b3 with
          | false =>
            simp only [Bool.false_eq_true, if_false] at hres
            refine rc_cond rfl (fun _ => ?_) (fun hc => by cases hc)
            refine rc_seq ?_
            refine rc_region ?_
            refine rd_op (v := vb false) (ov_move rfl) ?_
            refine rd_nil ?_
            refine pn_seq ?_
            subst hres
            refine rc_retX (.tmp rfl .nil) ⟨L4, rfl, ?_, ?_⟩
            · exact monoN mono (csl (c.drop (i + 1).toNat)) (by rw [Nat.add_comm]; exact E4)
            · exact Mem.sub (mem_out M4) (.cons _ (List.Sublist.refl _))
          | true =>
            simp only [if_true] at hres
            refine rc_cond rfl (fun hc => by cases hc) (fun _ => ?_)
            refine rc_skip ?_
            refine pn_blk ?_
            refine pn_seq ?_
            refine rc_region ?_
            refine rd_op (ov_bin rfl rfl i_add) ?_
            refine rd_op (ov_move rfl) ?_
            refine rd_nil ?_
            refine pn_again ?_
            have hinc : wr (i + 1) = i + 1 := wr_of (by omega) (by omega)
            rw [hinc]
            refine rc_weak ?_ (ih (i + 1) s3 L4 _ (by omega) (by omega) E4 (Mem.sub (mem_out M4) (.cons _ (List.Sublist.refl _))) hres)
            exact ((sub_cons rfl (sub_cons rfl (sub_cons rfl (sub_cons rfl (sub_nil _))))))
    · exfalso
      simp only [decide_eq_false_iff_not] at hc
      omega
theorem f48_pre (mono : ∀ k s L, ME (k + 1) s L → ME k s L) (HV : VIS Try.prog g caps step ME G) : ∀ (n : Nat) (c : List api_ControlNode), csl c < n → (∀ x ∈ poL c, G x) → VPRE g caps step ME c
  | 0, c, hn, _ => by omega
  | n + 1, c, hn, hG => by
    intro k vc s L R h rc hM M
    have IH : ∀ c', csl c' < csl c → (∀ x ∈ poL c', G x) → VPRE g caps step ME c' := fun c' hc hg => f48_pre mono HV n c' (by omega) hg
    obtain ⟨res, hres⟩ : ∃ res, preL step c s = res := ⟨_, rfl⟩
    suffices H : RC Try.prog ac48 [] (retPost Try.prog [(4, none)] fun r h' => ∃ L2, r = vb res.1 ∧ ME k res.2 L2 ∧ Mem h' (L2 ++ R)) (argE 0 [vc, .fn (.func g) [] caps]) h by
      obtain ⟨r, h2, X, L2, hr, hE, hM2⟩ := fnX text48 (by simp) H
      rw [hres]
      subst hr
      exact ⟨h2, L2, X, hE, hM2⟩
    unfold ac48
    refine rc_seq ?_
    refine rc_region ?_
    refine rd_op (v := vb false) (ov_move rfl) ?_
    refine rd_nil ?_
    refine pn_seq ?_
    refine rc_seq ?_
    refine rc_seq ?_
    refine rc_region ?_
    refine rd_op (ov_move rfl) ?_
    refine rd_op (ov_bi rfl (sl_len rc Try.underlying28 _)) ?_
    refine rd_op (v := vi 0) (ov_move rfl) ?_
    refine rd_nil ?_
    refine pn_seq ?_
    refine rc_block ?_
    refine rc_weak ?_ (pre_loop mono HV rc hG IH (k := k) ?_ (Int.toNat ((c.length : Int) - 0)) 0 s L h rfl (by omega) hM M hres)
    · exact ((sub_cons rfl (sub_cons rfl (sub_cons rfl (sub_cons rfl (sub_nil _))))))
    · intro h2 L2 hE ht M2
      refine px_blk ?_
      refine pn_seq ?_
      refine rc_seq ?_
      refine rc_region ?_
      refine rd_op (v := vb true) (ov_move rfl) ?_
      refine rd_nil ?_
      refine pn_seq ?_
      exact rc_retX (.tmp rfl .nil) ⟨L2, by rw [ht]; rfl, hE, M2⟩
end
/-- What a callback must do. -/
def APPV {σ : Type} (g : FuncId) (fs cs : List PV) (ap : Int → σ → Bool × σ) (ME : Nat → σ → List Ent → Prop) : Prop :=
  ∀ (k : Nat) (t : Int) (s : σ) (L R : List Ent) (h : Heap), ME (k + 1) s L → Mem h (L ++ R) → ∃ h2 L2, FnX Try.prog g (fs ++ ([vi t] ++ cs)) h (vb (ap t s).1) h2 ∧ ME k (ap t s).2 L2 ∧ Mem h2 (L2 ++ R)
def TSTV {σ : Type} (g : FuncId) (fs cs : List PV) (ts : List api_ExprNode → σ → Bool × σ) (ME : Nat → σ → List Ent → Prop) : Prop :=
  ∀ (k : Nat) (l : List api_ExprNode) (vl : PV) (s : σ) (L R : List Ent) (h : Heap), l.length ≤ 40 → (tSl api_ExprNode.t).R l vl → ME (k + 1) s L → Mem h (L ++ R) → ∃ h2 L2, FnX Try.prog g (fs ++ ([vl] ++ cs)) h (vb (ts l s).1) h2 ∧ ME k (ts l s).2 L2 ∧ Mem h2 (L2 ++ R)
theorem nil_sl {α : Type} (t : TR α) : (tSl t).R [] nilS := ⟨⟨[], .inl ⟨none, rfl, rfl⟩, trivial⟩, by simp⟩
section
variable {σ : Type} {ga gt : FuncId} {fa ca ft ct : List PV} {ap : Int → σ → Bool × σ} {ts : List api_ExprNode → σ → Bool × σ} {ME : Nat → σ → List Ent → Prop}
/-- wrap -/
theorem f83_w {x : api_ControlNode} {v : PV} (r : api_ControlNode.t.R x v) :
    ∃ t u, FnR Try.prog 83 [v] (.ifc t u) ∧ ((x.Kind = 1 ∧ t = 135 ∧ u = v) ∨ (x.Kind = 3 ∧ t = 136 ∧ u = v) ∨ (x.Kind = 2 ∧ t = 137 ∧ u = v) ∨ (x.Kind ≠ 1 ∧ x.Kind ≠ 3 ∧ x.Kind ≠ 2 ∧ t = 139 ∧ u = .agg [])) := by
  have hclo := TR.clo api_ControlNode.t r
  obtain ⟨c2, c3, c4, e, -, -, -⟩ := api_ControlNode.op_of r
  suffices H : RC Try.prog ac83 [] (QR Try.prog [(2, none)] (fun r' => ∃ t u, r' = .ifc t u ∧ ((x.Kind = 1 ∧ t = 135 ∧ u = v) ∨ (x.Kind = 3 ∧ t = 136 ∧ u = v) ∨ (x.Kind = 2 ∧ t = 137 ∧ u = v) ∨ (x.Kind ≠ 1 ∧ x.Kind ≠ 3 ∧ x.Kind ≠ 2 ∧ t = 139 ∧ u = .agg [])))) (argE 0 [v]) ⟨0, []⟩ by
    obtain ⟨r', hf, t, u, rfl, h2⟩ := fnE text83 (by simp) H
    exact ⟨t, u, hf, h2⟩
  unfold ac83
  subst e
  refine rc_seq ?_
  refine rc_region ?_
  refine rd_op (ov_box rfl rfl) ?_
  refine rd_op (ov_move rfl) ?_
  refine rd_nil ?_
  refine pn_seq ?_
  refine rc_seq ?_
  refine rc_seq ?_
  refine rc_region ?_
  refine rd_op (ov_faddr rfl rfl) ?_
  refine rd_op (ov_load rfl rfl rfl) ?_
  refine rd_nil ?_
  refine pn_seq ?_
  refine rc_block ?_
  refine rc_seq ?_
  refine rc_region ?_
  refine rd_op (ov_bin rfl rfl i_eql) ?_
  refine rd_op (ov_move rfl) ?_
  refine rd_nil ?_
  refine pn_seq ?_
  refine rc_cond rfl (fun hc => ?_) (fun hc => ?_)
  · simp only [decide_eq_true_eq] at hc
    refine rc_seq ?_
    refine rc_region ?_
    refine rd_op (ov_load rfl rfl rfl) ?_
    refine rd_op (ov_build rfl rfl) ?_
    refine rd_op (ov_mkIface rfl) ?_
    refine rd_op (ov_move rfl) ?_
    refine rd_nil ?_
    refine pn_seq ?_
    exact rc_retV (.tmp rfl .nil) (deep_closed hclo) ⟨_, _, rfl, .inl ⟨hc, rfl, rfl⟩⟩
  · simp only [decide_eq_false_iff_not] at hc
    refine rc_seq ?_
    refine rc_region ?_
    refine rd_op (ov_bin rfl rfl i_eql) ?_
    refine rd_op (ov_move rfl) ?_
    refine rd_nil ?_
    refine pn_seq ?_
    refine rc_cond rfl (fun hc2 => ?_) (fun hc2 => ?_)
    · simp only [decide_eq_true_eq] at hc2
      refine rc_seq ?_
      refine rc_region ?_
      refine rd_op (ov_load rfl rfl rfl) ?_
      refine rd_op (ov_build rfl rfl) ?_
      refine rd_op (ov_mkIface rfl) ?_
      refine rd_op (ov_move rfl) ?_
      refine rd_nil ?_
      refine pn_seq ?_
      exact rc_retV (.tmp rfl .nil) (deep_closed hclo) ⟨_, _, rfl, .inr (.inl ⟨hc2, rfl, rfl⟩)⟩
    · simp only [decide_eq_false_iff_not] at hc2
      refine rc_seq ?_
      refine rc_region ?_
      refine rd_op (ov_bin rfl rfl i_eql) ?_
      refine rd_op (ov_move rfl) ?_
      refine rd_nil ?_
      refine pn_seq ?_
      refine rc_cond rfl (fun hc3 => ?_) (fun hc3 => ?_)
      · simp only [decide_eq_true_eq] at hc3
        refine rc_seq ?_
        refine rc_region ?_
        refine rd_op (ov_load rfl rfl rfl) ?_
        refine rd_op (ov_build rfl rfl) ?_
        refine rd_op (ov_mkIface rfl) ?_
        refine rd_op (ov_move rfl) ?_
        refine rd_nil ?_
        refine pn_seq ?_
        exact rc_retV (.tmp rfl .nil) (deep_closed hclo) ⟨_, _, rfl, .inr (.inr (.inl ⟨hc3, rfl, rfl⟩))⟩
      · simp only [decide_eq_false_iff_not] at hc3
        refine rc_skip ?_
        refine pn_blk ?_
        refine pn_seq ?_
        refine rc_seq ?_
        refine rc_region ?_
        refine rd_op (ov_build rfl rfl) ?_
        refine rd_op (ov_mkIface rfl) ?_
        refine rd_op (ov_move rfl) ?_
        refine rd_nil ?_
        refine pn_seq ?_
        exact rc_retV (.tmp rfl .nil) (deep_closed rfl) ⟨_, _, rfl, .inr (.inr (.inr ⟨hc, hc2, hc3, rfl, rfl⟩))⟩
/-- (applyNode).branch -/
theorem f117_w (HA : APPV ga fa ca ap ME) {x : api_ControlNode} {v : PV} (r : api_ControlNode.t.R x v) {k : Nat} {s : σ} {L R : List Ent} {h : Heap} (hM : ME (k + 1) s L) (M : Mem h (L ++ R)) :
    ∃ h2 L2, FnX Try.prog 117 [v, .agg [.fn (.func ga) fa ca, .fn (.func gt) ft ct]] h nilS h2 ∧ ME k (ap x.Table s).2 L2 ∧ Mem h2 (L2 ++ R) := by
  obtain ⟨c2, c3, c4, e, -, -, -⟩ := api_ControlNode.op_of r
  subst e
  suffices H : RC Try.prog ac117 [] (retPost Try.prog [(4, none)] fun r' h' => ∃ L2, r' = nilS ∧ ME k (ap x.Table s).2 L2 ∧ Mem h' (L2 ++ R)) (argE 0 [.agg [vi x.Kind, vi x.Table, c2, c3, c4], .agg [.fn (.func ga) fa ca, .fn (.func gt) ft ct]]) h by
    obtain ⟨r', h2, X, L2, rfl, hE, hM2⟩ := fnX text117 (by simp) H
    exact ⟨h2, L2, X, hE, hM2⟩
  unfold ac117
  refine rc_seq ?_
  refine rc_region ?_
  refine rd_op (ov_box rfl rfl) ?_
  refine rd_op (ov_box rfl rfl) ?_
  refine rd_op (ov_move rfl) ?_
  refine rd_nil ?_
  refine pn_seq ?_
  refine rc_seq ?_
  refine rc_regionS ?_
  refine rs_step (rd_op (ov_faddr rfl rfl) (rs_back ?_))
  refine rs_step (rd_op (ov_load rfl rfl rfl) (rs_back ?_))
  refine rs_step (rd_op (ov_faddr rfl rfl) (rs_back ?_))
  refine rs_step (rd_op (ov_faddr rfl rfl) (rs_back ?_))
  refine rs_step (rd_op (ov_load rfl rfl rfl) (rs_back ?_))
  obtain ⟨h2, L2, X, E2, M2⟩ := HA k x.Table s L R h hM M
  refine rs_callG rfl rfl rfl X ?_
  refine rs_nil ?_
  refine pn_seq ?_
  refine rc_seq ?_
  refine rc_region ?_
  refine rd_op (ov_move rfl) ?_
  refine rd_nil ?_
  refine pn_seq ?_
  exact rc_retX (.tmp rfl .nil) ⟨L2, rfl, E2, M2⟩
/-- (hitNode).branch -/
theorem f118_w (HA : APPV ga fa ca ap ME) {x : api_ControlNode} {v : PV} (r : api_ControlNode.t.R x v) {k : Nat} {s : σ} {L R : List Ent} {h : Heap} (hM : ME (k + 1) s L) (M : Mem h (L ++ R)) :
    ∃ b h2 L2, FnX Try.prog 118 [v, .agg [.fn (.func ga) fa ca, .fn (.func gt) ft ct]] h b h2 ∧ (tSl api_ControlNode.t).R (if (ap x.Table s).1 = true then x.Then else x.Else) b ∧ ME k (ap x.Table s).2 L2 ∧ Mem h2 (L2 ++ R) := by
  obtain ⟨v3, e3, r3⟩ := api_ControlNode.g_Then r
  obtain ⟨v4, e4, r4⟩ := api_ControlNode.g_Else r
  obtain ⟨c2, c3, c4, e, -, -, -⟩ := api_ControlNode.op_of r
  subst e
  suffices H : RC Try.prog ac118 [] (retPost Try.prog [(4, none)] fun r' h' => ∃ L2, (tSl api_ControlNode.t).R (if (ap x.Table s).1 = true then x.Then else x.Else) r' ∧ ME k (ap x.Table s).2 L2 ∧ Mem h' (L2 ++ R)) (argE 0 [.agg [vi x.Kind, vi x.Table, c2, c3, c4], .agg [.fn (.func ga) fa ca, .fn (.func gt) ft ct]]) h by
    obtain ⟨r', h2, X, L2, hr, hE, hM2⟩ := fnX text118 (by simp) H
    exact ⟨r', h2, L2, X, hr, hE, hM2⟩
  unfold ac118
  refine rc_seq ?_
  refine rc_region ?_
  refine rd_op (ov_box rfl rfl) ?_
  refine rd_op (ov_box rfl rfl) ?_
  refine rd_op (ov_move rfl) ?_
  refine rd_nil ?_
  refine pn_seq ?_
  refine rc_seq ?_
  refine rc_seq ?_
  refine rc_regionS ?_
  refine rs_step (rd_op (ov_faddr rfl rfl) (rs_back ?_))
  refine rs_step (rd_op (ov_load rfl rfl rfl) (rs_back ?_))
  refine rs_step (rd_op (ov_faddr rfl rfl) (rs_back ?_))
  refine rs_step (rd_op (ov_faddr rfl rfl) (rs_back ?_))
  refine rs_step (rd_op (ov_load rfl rfl rfl) (rs_back ?_))
  obtain ⟨h2, L2, X, E2, M2⟩ := HA k x.Table s L R h hM M
  generalize hst : ap x.Table s = st at *
  obtain ⟨b1, s1⟩ := st
  refine rs_callG rfl rfl rfl X ?_
  refine rs_nil ?_
  refine pn_seq ?_
  cases b1 with
  | true =>
    refine rc_cond rfl (fun _ => ?_) (fun hc => by cases hc)
    refine rc_seq ?_
    refine rc_region ?_
    refine rd_op (ov_faddr rfl rfl) ?_
    refine rd_op (ov_faddr rfl e3) ?_
    refine rd_op (ov_load rfl (TR.cnt (tSl api_ControlNode.t) r3) (TR.agg (tSl api_ControlNode.t) r3)) ?_
    refine rd_op (ov_move rfl) ?_
    refine rd_nil ?_
    refine pn_seq ?_
    exact rc_retX (.tmp rfl .nil) ⟨L2, r3, E2, M2⟩
  | false =>
    refine rc_cond rfl (fun hc => by cases hc) (fun _ => ?_)
    refine rc_skip ?_
    refine pn_seq ?_
    refine rc_seq ?_
    refine rc_region ?_
    refine rd_op (ov_faddr rfl rfl) ?_
    refine rd_op (ov_faddr rfl e4) ?_
    refine rd_op (ov_load rfl (TR.cnt (tSl api_ControlNode.t) r4) (TR.agg (tSl api_ControlNode.t) r4)) ?_
    refine rd_op (ov_move rfl) ?_
    refine rd_nil ?_
    refine pn_seq ?_
    exact rc_retX (.tmp rfl .nil) ⟨L2, r4, E2, M2⟩
/-- (ifNode).branch -/
theorem f119_w (HT : TSTV gt ft ct ts ME) {x : api_ControlNode} {v : PV} (hg : GN x) (r : api_ControlNode.t.R x v) {k : Nat} {s : σ} {L R : List Ent} {h : Heap} (hM : ME (k + 1) s L) (M : Mem h (L ++ R)) :
    ∃ b h2 L2, FnX Try.prog 119 [v, .agg [.fn (.func ga) fa ca, .fn (.func gt) ft ct]] h b h2 ∧ (tSl api_ControlNode.t).R (if (ts x.Cond s).1 = true then x.Then else x.Else) b ∧ ME k (ts x.Cond s).2 L2 ∧ Mem h2 (L2 ++ R) := by
  obtain ⟨v2, e2, r2⟩ := api_ControlNode.g_Cond r
  obtain ⟨v3, e3, r3⟩ := api_ControlNode.g_Then r
  obtain ⟨v4, e4, r4⟩ := api_ControlNode.g_Else r
  obtain ⟨c2, c3, c4, e, -, -, -⟩ := api_ControlNode.op_of r
  subst e
  suffices H : RC Try.prog ac119 [] (retPost Try.prog [(4, none)] fun r' h' => ∃ L2, (tSl api_ControlNode.t).R (if (ts x.Cond s).1 = true then x.Then else x.Else) r' ∧ ME k (ts x.Cond s).2 L2 ∧ Mem h' (L2 ++ R)) (argE 0 [.agg [vi x.Kind, vi x.Table, c2, c3, c4], .agg [.fn (.func ga) fa ca, .fn (.func gt) ft ct]]) h by
    obtain ⟨r', h2, X, L2, hr, hE, hM2⟩ := fnX text119 (by simp) H
    exact ⟨r', h2, L2, X, hr, hE, hM2⟩
  unfold ac119
  refine rc_seq ?_
  refine rc_region ?_
  refine rd_op (ov_box rfl rfl) ?_
  refine rd_op (ov_box rfl rfl) ?_
  refine rd_op (ov_move rfl) ?_
  refine rd_nil ?_
  refine pn_seq ?_
  refine rc_seq ?_
  refine rc_seq ?_
  refine rc_regionT ?_
  refine rd_op (ov_faddr rfl rfl) ?_
  refine rd_op (ov_load rfl rfl rfl) ?_
  refine rd_op (ov_faddr rfl rfl) ?_
  refine rd_op (ov_faddr rfl e2) ?_
  refine rd_op (ov_load rfl (TR.cnt (tSl api_ExprNode.t) r2) (TR.agg (tSl api_ExprNode.t) r2)) ?_
  have M1 := mem_acc (sz := 3) (es := []) M 106 (.inl ⟨none, rfl, rfl⟩) (by simp)
  obtain ⟨nw, sr, ar⟩ := src_of (t := api_ExprNode.t) (h := h) r2
  have hk := hg.cond
  have f1 : fits (([] : List PV).length + nw.length) 24 = true := by rw [All2.length_eq (show All2 api_ExprNode.t.R ([] : List api_ExprNode) [] from trivial), All2.length_eq ar]; (try simp only [List.length_cons, List.length_nil]); exact fits_of (by (first | omega | (simp only [List.length_append, List.length_cons, List.length_nil] at *; omega))) (by (first | omega | (simp only [List.length_append, List.length_cons, List.length_nil] at *; omega)))
  refine rd_appW (k := 0) (es := ([] : List PV)) (news := nw) M1 rfl rfl rfl rfl (.inl rfl) sr f1 (fun a1 h1 n1 wr1 Ma => ?_)
  have q1 : All2 api_ExprNode.t.R x.Cond (([] : List PV) ++ nw) := All2.app (show All2 api_ExprNode.t.R ([] : List api_ExprNode) [] from trivial) ar
  have hl1 : x.Cond.length ≤ 4611686018427387904 := by omega
  refine rd_nil ?_
  refine pn_lastS ?_
  replace Ma : Mem h1 (⟨a1, 106, 3, (([] : List PV) ++ nw)⟩ :: (L ++ R)) := Ma
  refine rs_freeze (k := 0) (E' := fun d => [(10, d), (9, v2), (8, .fp v2), (7, .fp (.agg [vi x.Kind, vi x.Table, c2, c3, c4])), (6, .fn (.func gt) ft ct), (5, .fp (.fn (.func gt) ft ct)), (4, nilS), (3, .fp (.agg [.fn (.func ga) fa ca, .fn (.func gt) ft ct])), (2, .fp (.agg [vi x.Kind, vi x.Table, c2, c3, c4])), (0, .agg [vi x.Kind, vi x.Table, c2, c3, c4]), (1, .agg [.fn (.func ga) fa ca, .fn (.func gt) ft ct])]) Ma rfl n1 (fun d => frz_turn rfl (frz_keep rfl (frz_keep rfl (frz_keep rfl (frz_keep rfl (frz_keep rfl (frz_keep rfl (frz_keep rfl (frz_keep rfl (frz_keep rfl (frz_keep rfl frz_nil))))))))))) (fun d h2 b2 M2 => ?_)
  have rd : (tSl api_ExprNode.t).R x.Cond d := ⟨⟨_, b2, q1⟩, Nat.le_trans hl1 (by decide)⟩
  replace M2 : Mem h2 (L ++ R) := M2
  obtain ⟨h3, L3, X, E3, M3⟩ := HT k x.Cond d s L R h2 hk rd hM M2
  generalize hst : ts x.Cond s = st at *
  obtain ⟨b1, s1⟩ := st
  refine rs_callG rfl rfl rfl X ?_
  refine rs_nil ?_
  refine pn_seq ?_
  cases b1 with
  | true =>
    refine rc_cond rfl (fun _ => ?_) (fun hc => by cases hc)
    refine rc_seq ?_
    refine rc_region ?_
    refine rd_op (ov_faddr rfl rfl) ?_
    refine rd_op (ov_faddr rfl e3) ?_
    refine rd_op (ov_load rfl (TR.cnt (tSl api_ControlNode.t) r3) (TR.agg (tSl api_ControlNode.t) r3)) ?_
    refine rd_op (ov_move rfl) ?_
    refine rd_nil ?_
    refine pn_seq ?_
    exact rc_retX (.tmp rfl .nil) ⟨L3, r3, E3, M3⟩
  | false =>
    refine rc_cond rfl (fun hc => by cases hc) (fun _ => ?_)
    refine rc_skip ?_
    refine pn_seq ?_
    refine rc_seq ?_
    refine rc_region ?_
    refine rd_op (ov_faddr rfl rfl) ?_
    refine rd_op (ov_faddr rfl e4) ?_
    refine rd_op (ov_load rfl (TR.cnt (tSl api_ControlNode.t) r4) (TR.agg (tSl api_ControlNode.t) r4)) ?_
    refine rd_op (ov_move rfl) ?_
    refine rd_nil ?_
    refine pn_seq ?_
    exact rc_retX (.tmp rfl .nil) ⟨L3, r4, E3, M3⟩
/-- (otherNode).branch -/
theorem f120_w {w : PV} {n : Nat} (hw : cnt w = some n) {R : List Ent} {h : Heap} (M : Mem h R) : ∃ h2, FnX Try.prog 120 [.agg [], w] h nilS h2 ∧ Mem h2 R := by
  suffices H : RC Try.prog ac120 [] (retPost Try.prog [(4, none)] fun r' h' => r' = nilS ∧ Mem h' R) (argE 0 [.agg [], w]) h by
    obtain ⟨r', h2, X, rfl, hM2⟩ := fnX text120 (by simp) H
    exact ⟨h2, X, hM2⟩
  unfold ac120
  refine rc_seq ?_
  refine rc_region ?_
  refine rd_op (ov_box rfl rfl) ?_
  refine rd_op (ov_box rfl hw) ?_
  refine rd_op (ov_move rfl) ?_
  refine rd_nil ?_
  refine pn_seq ?_
  refine rc_seq ?_
  refine rc_region ?_
  refine rd_op (ov_move rfl) ?_
  refine rd_nil ?_
  refine pn_seq ?_
  exact rc_retX (.tmp rfl .nil) ⟨rfl, M⟩
theorem meth_117 : Meth Try.prog 135 "patchbay/control.branch" 117 := fun v w => by kernel_rfl
theorem meth_118 : Meth Try.prog 136 "patchbay/control.branch" 118 := fun v w => by kernel_rfl
theorem meth_119 : Meth Try.prog 137 "patchbay/control.branch" 119 := fun v w => by kernel_rfl
theorem meth_120 : Meth Try.prog 139 "patchbay/control.branch" 120 := fun v w => by kernel_rfl
/-- One node, wrapped and asked for its branch. -/
theorem branch_w (mono : ∀ k s L, ME (k + 1) s L → ME k s L) (HA : APPV ga fa ca ap ME) (HT : TSTV gt ft ct ts ME) {x : api_ControlNode} {v : PV} (hg : GN x) (r : api_ControlNode.t.R x v) :
    ∃ t u g, FnR Try.prog 83 [v] (.ifc t u) ∧ Meth Try.prog t "patchbay/control.branch" g ∧ ∀ {k : Nat} {s : σ} {L R : List Ent} {h : Heap}, ME (k + 1) s L → Mem h (L ++ R) →
      ∃ b h2 L2, FnX Try.prog g [u, .agg [.fn (.func ga) fa ca, .fn (.func gt) ft ct]] h b h2 ∧ (tSl api_ControlNode.t).R (brN ap ts x s).1 b ∧ ME k (brN ap ts x s).2 L2 ∧ Mem h2 (L2 ++ R) := by
  obtain ⟨t, u, hf, hh⟩ := f83_w r
  rcases hh with ⟨hk, rfl, rfl⟩ | ⟨hk, rfl, rfl⟩ | ⟨hk, rfl, rfl⟩ | ⟨h1, h3, h2, rfl, rfl⟩
  · refine ⟨_, _, 117, hf, meth_117, fun {k s L R h} hM M => ?_⟩
    obtain ⟨h2, L2, X, E2, M2⟩ := f117_w (gt := gt) (ft := ft) (ct := ct) HA r hM M
    refine ⟨nilS, h2, L2, X, ?_, ?_, M2⟩
    · simp only [brN, hk, if_true]; exact nil_sl _
    · simp only [brN, hk, if_true]; exact E2
  · refine ⟨_, _, 118, hf, meth_118, fun {k s L R h} hM M => ?_⟩
    obtain ⟨b, h2, L2, X, rb, E2, M2⟩ := f118_w (gt := gt) (ft := ft) (ct := ct) HA r hM M
    have e : brN ap ts x s = (if (ap x.Table s).1 = true then x.Then else x.Else, (ap x.Table s).2) := by simp [brN, hk]
    rw [e]
    exact ⟨b, h2, L2, X, rb, E2, M2⟩
  · refine ⟨_, _, 119, hf, meth_119, fun {k s L R h} hM M => ?_⟩
    obtain ⟨b, h2, L2, X, rb, E2, M2⟩ := f119_w (ga := ga) (fa := fa) (ca := ca) HT hg r hM M
    have e : brN ap ts x s = (if (ts x.Cond s).1 = true then x.Then else x.Else, (ts x.Cond s).2) := by simp [brN, hk]
    rw [e]
    exact ⟨b, h2, L2, X, rb, E2, M2⟩
  · refine ⟨_, _, 120, hf, meth_120, fun {k s L R h} hM M => ?_⟩
    obtain ⟨h2', X, M2⟩ := f120_w (w := .agg [.fn (.func ga) fa ca, .fn (.func gt) ft ct]) rfl M
    have e : brN ap ts x s = ([], s) := by simp [brN, h1, h2, h3]
    rw [e]
    exact ⟨nilS, h2', L, X, nil_sl _, mono _ _ _ hM, M2⟩
def WRUN {σ : Type} (ga gt : FuncId) (fa ca ft ct : List PV) (ap : Int → σ → Bool × σ) (ts : List api_ExprNode → σ → Bool × σ) (ME : Nat → σ → List Ent → Prop) (c : List api_ControlNode) : Prop :=
  ∀ (k : Nat) (vc : PV) (s : σ) (L R : List Ent) (h : Heap), (tSl api_ControlNode.t).R c vc → ME (csl c + k) s L → Mem h (L ++ R) → ∃ h2 L2, FnX Try.prog 73 [.agg [.fn (.func ga) fa ca, .fn (.func gt) ft ct], vc] h (.tup []) h2 ∧ ME k (wkL ap ts c s) L2 ∧ Mem h2 (L2 ++ R)
theorem run_loop (mono : ∀ k s L, ME (k + 1) s L → ME k s L) (HA : APPV ga fa ca ap ME) (HT : TSTV gt ft ct ts ME) {c : List api_ControlNode} {vc : PV} (rc : (tSl api_ControlNode.t).R c vc) (hG : GL c) (IH : ∀ c', csl c' < csl c → GL c' → WRUN ga gt fa ca ft ct ap ts ME c') {R : List Ent} {k : Nat} {S : List Fr} {res : σ}
    (hK0 : ∀ (h : Heap) (L : List Ent), ME k res L → Mem h (L ++ R) → PX Try.prog 0 S (retPost Try.prog [] fun r h' => ∃ L2, r = .tup [] ∧ ME k res L2 ∧ Mem h' (L2 ++ R)) [] h) :
    ∀ (m : Nat) (i : Int) (s : σ) (L : List Ent) (h : Heap), m = Int.toNat ((c.length : Int) - i) → 0 ≤ i → ME (csl (c.drop i.toNat) + k) s L → Mem h (L ++ R) → wkL ap ts (c.drop i.toNat) s = res →
      RC Try.prog (.loop ac73_L1) S (retPost Try.prog [] fun r h' => ∃ L2, r = .tup [] ∧ ME k res L2 ∧ Mem h' (L2 ++ R)) [(8, vi i), (7, vi (c.length : Int)), (6, vc), (2, .fp (.agg [.fn (.func ga) fa ca, .fn (.func gt) ft ct]))] h := by
  have hbd := sl_bound rc
  intro m
  induction m with
  | zero =>
    intro i s L h hm h0 hM M hres
    have hd : c.drop i.toNat = [] := List.drop_eq_nil_of_le (by omega)
    rw [hd, wkL_nil] at hres
    rw [hd] at hM
    refine rc_loop ?_
    unfold ac73_L1
    refine rc_seq ?_
    refine rc_region ?_
    refine rd_op (ov_bin rfl rfl i_lss) ?_
    refine rd_nil ?_
    refine pn_seq ?_
    refine rc_seq ?_
    refine rc_cond rfl (fun hc => ?_) (fun hc => ?_)
    · exfalso
      simp only [decide_eq_true_eq] at hc
      omega
    · refine rc_exit ?_
      refine px_seq ?_
      refine px_again ?_
      subst hres
      refine px_weak (sub_nil _) (hK0 _ L ?_ M)
      simpa [csl] using hM
  | succ m ih =>
    intro i s L h hm h0 hM M hres
    have h1 : i < c.length := by omega
    have hd := drop_ix h0 h1
    rw [hd, wkL_cons, wkN_eq] at hres
    have hgn := hG.at h0 h1
    have hb1 := brN_csl ap ts (ix c i) s
    have hcm := csl_mem (ix_mem h0 h1)
    rw [hd, csl] at hM
    obtain ⟨j, hj⟩ : ∃ j, csn (ix c i) = csl (brN ap ts (ix c i) s).1 + j + 1 := ⟨csn (ix c i) - csl (brN ap ts (ix c i) s).1 - 1, by omega⟩
    have hb : ME (csl (brN ap ts (ix c i) s).1 + (j + (csl (c.drop (i + 1).toNat) + k)) + 1) s L := by
      rw [show csl (brN ap ts (ix c i) s).1 + (j + (csl (c.drop (i + 1).toNat) + k)) + 1 = csn (ix c i) + csl (c.drop (i + 1).toNat) + k by omega]
      exact hM
    refine rc_loop ?_
    unfold ac73_L1
    refine rc_seq ?_
    refine rc_region ?_
    refine rd_op (ov_bin rfl rfl i_lss) ?_
    refine rd_nil ?_
    refine pn_seq ?_
    refine rc_seq ?_
    refine rc_cond rfl (fun hc => ?_) (fun hc => ?_)
    · refine rc_skip ?_
      refine pn_seq ?_
      refine rc_seq ?_
      refine rc_block ?_
      refine rc_seq ?_
      refine rc_region ?_
      obtain ⟨v1, e1, r1⟩ := sl_idx (i := i) rc h0 h1
      obtain ⟨t1, u1, g1, hf1, hm1, hbr⟩ := branch_w mono HA HT hgn r1
      refine rd_op (ov_iaddr rfl rfl e1) ?_
      refine rd_op (ov_load rfl (TR.cnt api_ControlNode.t r1) (TR.agg api_ControlNode.t r1)) ?_
      refine rd_allocO (x := .agg [vi 0, vi 0, nilS, nilS, nilS]) M rfl rfl (fun ia wa ha Ma => ?_)
      refine rd_storeO (k := 0) (v := v1) Ma rfl rfl rfl (TR.cnt api_ControlNode.t r1) (fun hb1 Mb => ?_)
      replace Mb : Mem hb1 (⟨.op ia wa 0, 40, 5, [v1]⟩ :: (L ++ R)) := Mb
      refine rd_nil ?_
      refine pn_seq ?_
      refine rc_regionU ?_
      refine rx_step ?_
      refine rd_op (ov_load rfl rfl rfl) ?_
      refine rx_back ?_
      refine rx_step ?_
      refine rd_op (ov_loadh rfl (load_whole (k := 0) Mb rfl (TR.agg api_ControlNode.t r1))) ?_
      refine rx_back ?_
      refine rx_step ?_
      refine rd_call (cv_fn rfl rfl (clL_cons (TR.clo api_ControlNode.t r1) clL_nil) hf1) ?_
      refine rx_back ?_
      refine rx_step ?_
      refine rd_op (ov_load rfl rfl rfl) ?_
      refine rx_back ?_
      obtain ⟨b, h2, L2, X2, rb, E2, M2⟩ := hbr (R := ⟨.op ia wa 0, 40, 5, [v1]⟩ :: R) hb (mem_in Mb)
      refine rx_invX (az0 := [.agg [.fn (.func ga) fa ca, .fn (.func gt) ft ct]]) rfl rfl hm1 X2 ?_
      obtain ⟨h3, L3, X3, E3, M3⟩ := IH _ (by omega) (brN_gl ap ts hgn s) (j + (csl (c.drop (i + 1).toNat) + k)) b _ L2 _ h2 rb E2 M2
      refine rx_callG (az0 := [.agg [.fn (.func ga) fa ca, .fn (.func gt) ft ct], b]) rfl rfl rfl X3 ?_
      refine rx_nil ?_
      refine pn_blk ?_
      refine pn_seq ?_
      refine rc_region ?_
      refine rd_op (ov_bin rfl rfl i_add) ?_
      refine rd_op (ov_move rfl) ?_
      refine rd_nil ?_
      refine pn_again ?_
      have hinc : wr (i + 1) = i + 1 := wr_of (by omega) (by omega)
      rw [hinc]
      have hE : ME (csl (c.drop (i + 1).toNat) + k) (wkL ap ts (brN ap ts (ix c i) s).1 (brN ap ts (ix c i) s).2) L3 := monoN mono j (by rw [Nat.add_comm]; exact E3)
      refine rc_weak ?_ (ih (i + 1) _ L3 _ (by omega) (by omega) hE (Mem.sub (mem_out M3) (.cons _ (List.Sublist.refl _))) hres)
      exact ((sub_cons rfl (sub_cons rfl (sub_cons rfl (sub_cons rfl (sub_nil _))))))
    · exfalso
      simp only [decide_eq_false_iff_not] at hc
      omega
theorem f73_run (mono : ∀ k s L, ME (k + 1) s L → ME k s L) (HA : APPV ga fa ca ap ME) (HT : TSTV gt ft ct ts ME) : ∀ (n : Nat) (c : List api_ControlNode), csl c < n → GL c → WRUN ga gt fa ca ft ct ap ts ME c
  | 0, c, hn, _ => by omega
  | n + 1, c, hn, hG => by
    intro k vc s L R h rc hM M
    have IH : ∀ c', csl c' < csl c → GL c' → WRUN ga gt fa ca ft ct ap ts ME c' := fun c' hc hg => f73_run mono HA HT n c' (by omega) hg
    obtain ⟨res, hres⟩ : ∃ res, wkL ap ts c s = res := ⟨_, rfl⟩
    suffices H : RC Try.prog ac73 [] (retPost Try.prog [] fun r h' => ∃ L2, r = .tup [] ∧ ME k res L2 ∧ Mem h' (L2 ++ R)) (argE 0 [.agg [.fn (.func ga) fa ca, .fn (.func gt) ft ct], vc]) h by
      obtain ⟨r, h2, X, L2, hr, hE, hM2⟩ := fnX text73 (by simp) H
      rw [hres]
      subst hr
      exact ⟨h2, L2, X, hE, hM2⟩
    unfold ac73
    refine rc_seq ?_
    refine rc_region ?_
    refine rd_op (ov_box rfl rfl) ?_
    refine rd_nil ?_
    refine pn_seq ?_
    refine rc_seq ?_
    refine rc_region ?_
    refine rd_op (ov_move rfl) ?_
    refine rd_op (ov_bi rfl (sl_len rc Try.underlying28 _)) ?_
    refine rd_op (v := vi 0) (ov_move rfl) ?_
    refine rd_nil ?_
    refine pn_seq ?_
    refine rc_block ?_
    refine rc_weak ?_ (run_loop mono HA HT rc hG IH (k := k) ?_ (Int.toNat ((c.length : Int) - 0)) 0 s L h rfl (by omega) hM M hres)
    · exact ((sub_cons rfl (sub_cons rfl (sub_cons rfl (sub_cons rfl (sub_nil _))))))
    · intro h2 L2 hE M2
      refine px_blk ?_
      exact pn_endX .nil ⟨L2, rfl, hE, M2⟩
end
/-- A callback that is given, or nil, and what stands for it. -/
def IsF (v : PV) (d g : FuncId) (fs cs : List PV) : Prop := v = .fn (.func g) fs cs ∨ (v = .sc .nilFunc ∧ g = d ∧ fs = [] ∧ cs = [])
theorem eqnil68 (ox oy : Operand) (g : FuncId) (a b : List PV) : binF Try.prog .eql 68 ox oy (.fn (.func g) a b) (.sc .nilFunc) = some (vb false) := by
  cases a with
  | nil => cases b with
    | nil => kernel_rfl
    | cons _ _ => kernel_rfl
  | cons _ _ => kernel_rfl
theorem eqnil69 (ox oy : Operand) (g : FuncId) (a b : List PV) : binF Try.prog .eql 69 ox oy (.fn (.func g) a b) (.sc .nilFunc) = some (vb false) := by
  cases a with
  | nil => cases b with
    | nil => kernel_rfl
    | cons _ _ => kernel_rfl
  | cons _ _ => kernel_rfl
theorem nileq68 (ox oy : Operand) : binF Try.prog .eql 68 ox oy (.sc .nilFunc) (.sc .nilFunc) = some (vb true) := by kernel_rfl
theorem nileq69 (ox oy : Operand) : binF Try.prog .eql 69 ox oy (.sc .nilFunc) (.sc .nilFunc) = some (vb true) := by kernel_rfl
section
variable {σ : Type} {ga gt : FuncId} {fa ca ft ct : List PV} {ap : Int → σ → Bool × σ} {ts : List api_ExprNode → σ → Bool × σ} {ME : Nat → σ → List Ent → Prop}
theorem f39_walk (mono : ∀ k s L, ME (k + 1) s L → ME k s L) {va vt : PV} (ia : IsF va 71 ga fa ca) (it : IsF vt 72 gt ft ct) (HA : APPV ga fa ca ap ME) (HT : TSTV gt ft ct ts ME) {c : List api_ControlNode} (hG : GL c) {k : Nat} {vc : PV} {s : σ} {L R : List Ent} {h : Heap} (rc : (tSl api_ControlNode.t).R c vc) (hM : ME (csl c + k) s L) (M : Mem h (L ++ R)) :
    ∃ h2 L2, FnX Try.prog 39 [vc, va, vt] h (.tup []) h2 ∧ ME k (wkL ap ts c s) L2 ∧ Mem h2 (L2 ++ R) := by
  obtain ⟨h3, L3, X3, E3, M3⟩ := f73_run mono HA HT _ c (Nat.lt_succ_self _) hG k vc s L R h rc hM M
  suffices H : RC Try.prog ac39 [] (retPost Try.prog [] fun r h' => ∃ L2, r = .tup [] ∧ ME k (wkL ap ts c s) L2 ∧ Mem h' (L2 ++ R)) (argE 0 [vc, va, vt]) h by
    obtain ⟨r, h2, X, L2, hr, hE, hM2⟩ := fnX text39 (by simp) H
    subst hr
    exact ⟨h2, L2, X, hE, hM2⟩
  have last : ∀ E S, Go.Pb.look 0 E = some vc → Go.Pb.look 1 E = some (.fn (.func ga) fa ca) → Go.Pb.look 2 E = some (.fn (.func gt) ft ct) → S = [] →
      RC Try.prog (.region false [⟨(some 10), .move (.tmp 1), none, false⟩, ⟨(some 11), .move (.tmp 2), none, false⟩, ⟨(some 12), .build [.nilFunc, .nilFunc] [(0, 1, (.tmp 10)), (1, 1, (.tmp 11))], none, false⟩, ⟨(some 13), .move (.tmp 0), none, false⟩, ⟨(some 14), .call (.func 73) [(.tmp 12), (.tmp 13)], none, false⟩]) S
        (retPost Try.prog [] fun r h' => ∃ L2, r = .tup [] ∧ ME k (wkL ap ts c s) L2 ∧ Mem h' (L2 ++ R)) E h := by
    intro E S e0 e1 e2 hS
    subst hS
    refine rc_regionS ?_
    refine rs_step (rd_op (ov_move e1) (rs_back ?_))
    refine rs_step (rd_op (ov_move (a := .fn (.func gt) ft ct) e2) (rs_back ?_))
    refine rs_step (rd_op (ov_build rfl rfl) (rs_back ?_))
    refine rs_step (rd_op (ov_move (a := vc) e0) (rs_back ?_))
    refine rs_callG (az0 := [.agg [.fn (.func ga) fa ca, .fn (.func gt) ft ct], vc]) rfl rfl rfl X3 ?_
    refine rs_nil ?_
    exact pn_endX .nil ⟨L3, rfl, E3, M3⟩
  have mid : ∀ E, Go.Pb.look 0 E = some vc → Go.Pb.look 1 E = some (.fn (.func ga) fa ca) → Go.Pb.look 2 E = some vt →
      RC Try.prog (.seq (.seq (.region false [⟨(some 8), .move (.tmp 2), none, false⟩, ⟨(some 9), .bin .eql 69 (.tmp 8) (.const .nilFunc), none, false⟩])
        (.cond (.tmp 9)
          (.region false [⟨(some 2), .move (.func 72), none, false⟩])
          (.skip)))
      (.region false [⟨(some 10), .move (.tmp 1), none, false⟩, ⟨(some 11), .move (.tmp 2), none, false⟩, ⟨(some 12), .build [.nilFunc, .nilFunc] [(0, 1, (.tmp 10)), (1, 1, (.tmp 11))], none, false⟩, ⟨(some 13), .move (.tmp 0), none, false⟩, ⟨(some 14), .call (.func 73) [(.tmp 12), (.tmp 13)], none, false⟩])) []
        (retPost Try.prog [] fun r h' => ∃ L2, r = .tup [] ∧ ME k (wkL ap ts c s) L2 ∧ Mem h' (L2 ++ R)) E h := by
    intro E e0 e1 e2
    refine rc_seq ?_
    refine rc_seq ?_
    refine rc_region ?_
    refine rd_op (ov_move (a := vt) e2) ?_
    rcases it with rfl | ⟨rfl, rfl, rfl, rfl⟩
    · refine rd_op (ov_bin rfl rfl (eqnil69 _ _ _ _ _)) ?_
      refine rd_nil ?_
      refine pn_seq ?_
      refine rc_cond rfl (fun hc => by cases hc) (fun _ => ?_)
      refine rc_skip ?_
      refine pn_seq ?_
      exact last _ _ e0 e1 e2 rfl
    · refine rd_op (ov_bin rfl rfl (nileq69 _ _)) ?_
      refine rd_nil ?_
      refine pn_seq ?_
      refine rc_cond rfl (fun _ => ?_) (fun hc => by cases hc)
      refine rc_region ?_
      refine rd_op (ov_move rfl) ?_
      refine rd_nil ?_
      refine pn_seq ?_
      exact last _ _ e0 e1 rfl rfl
  unfold ac39
  refine rc_seq ?_
  refine rc_seq ?_
  refine rc_region ?_
  refine rd_op (ov_move (a := va) rfl) ?_
  rcases ia with rfl | ⟨rfl, rfl, rfl, rfl⟩
  · refine rd_op (ov_bin rfl rfl (eqnil68 _ _ _ _ _)) ?_
    refine rd_nil ?_
    refine pn_seq ?_
    refine rc_cond rfl (fun hc => by cases hc) (fun _ => ?_)
    refine rc_skip ?_
    refine pn_seq ?_
    exact mid _ rfl rfl rfl
  · refine rd_op (ov_bin rfl rfl (nileq68 _ _)) ?_
    refine rd_nil ?_
    refine pn_seq ?_
    refine rc_cond rfl (fun _ => ?_) (fun hc => by cases hc)
    refine rc_region ?_
    refine rd_op (ov_move rfl) ?_
    refine rd_nil ?_
    refine pn_seq ?_
    exact mid _ rfl rfl rfl
/-! What stands for a callback that is nil -/
theorem f71_w {t : PV} {R : List Ent} {h : Heap} (M : Mem h R) : ∃ h2, FnX Try.prog 71 [t] h (vb false) h2 ∧ Mem h2 R := by
  suffices H : RC Try.prog ac71 [] (retPost Try.prog [(2, none)] fun r' h' => r' = vb false ∧ Mem h' R) (argE 0 [t]) h by
    obtain ⟨r', h2, X, rfl, hM2⟩ := fnX text71 (by simp) H
    exact ⟨h2, X, hM2⟩
  unfold ac71
  refine rc_seq ?_
  refine rc_region ?_
  refine rd_op (ov_move rfl) ?_
  refine rd_nil ?_
  refine pn_seq ?_
  refine rc_seq ?_
  refine rc_region ?_
  refine rd_op (ov_move rfl) ?_
  refine rd_nil ?_
  refine pn_seq ?_
  exact rc_retX (.tmp rfl .nil) ⟨rfl, M⟩
theorem f72_w {t : PV} {R : List Ent} {h : Heap} (M : Mem h R) : ∃ h2, FnX Try.prog 72 [t] h (vb false) h2 ∧ Mem h2 R := by
  suffices H : RC Try.prog ac72 [] (retPost Try.prog [(2, none)] fun r' h' => r' = vb false ∧ Mem h' R) (argE 0 [t]) h by
    obtain ⟨r', h2, X, rfl, hM2⟩ := fnX text72 (by simp) H
    exact ⟨h2, X, hM2⟩
  unfold ac72
  refine rc_seq ?_
  refine rc_region ?_
  refine rd_op (ov_move rfl) ?_
  refine rd_nil ?_
  refine pn_seq ?_
  refine rc_seq ?_
  refine rc_region ?_
  refine rd_op (ov_move rfl) ?_
  refine rd_nil ?_
  refine pn_seq ?_
  exact rc_retX (.tmp rfl .nil) ⟨rfl, M⟩
theorem appv_nil (mono : ∀ k s L, ME (k + 1) s L → ME k s L) : APPV 71 [] [] (fun _ s => (false, s)) ME := fun k t s L R h hM M => by
  obtain ⟨h2, X, M2⟩ := f71_w (t := vi t) M
  exact ⟨h2, L, X, mono _ _ _ hM, M2⟩
theorem tstv_nil (mono : ∀ k s L, ME (k + 1) s L → ME k s L) : TSTV 72 [] [] (fun _ s => (false, s)) ME := fun k l vl s L R h _ _ hM M => by
  obtain ⟨h2, X, M2⟩ := f72_w (t := vl) M
  exact ⟨h2, L, X, mono _ _ _ hM, M2⟩
end
/-! (*walk).execute -/
section
variable {σ : Type} {p : PV} {ap : Int → σ → Bool × σ} {ts : List api_ExprNode → σ → Bool × σ} {ME : Nat → σ → List Ent → Prop}
def XRUN {σ : Type} (p : PV) (ap : Int → σ → Bool × σ) (ts : List api_ExprNode → σ → Bool × σ) (ME : Nat → σ → List Ent → Prop) (c : List api_ControlNode) : Prop :=
  ∀ (k : Nat) (vc : PV) (s : σ) (L R : List Ent) (h : Heap), (tSl api_ControlNode.t).R c vc → ME (csl c + k) s L → Mem h (L ++ R) → ∃ h2 L2, FnX Try.prog 42 [p, vc] h (.tup []) h2 ∧ ME k (wkL ap ts c s) L2 ∧ Mem h2 (L2 ++ R)
theorem exec_loop (mono : ∀ k s L, ME (k + 1) s L → ME k s L) (HA : APPV 40 [p] [] ap ME) (HT : TSTV 41 [p] [] ts ME) {c : List api_ControlNode} {vc : PV} (rc : (tSl api_ControlNode.t).R c vc) (hG : GL c) (IH : ∀ c', csl c' < csl c → GL c' → XRUN p ap ts ME c') {R : List Ent} {k : Nat} {S : List Fr} {res : σ}
    (hK0 : ∀ (h : Heap) (L : List Ent), ME k res L → Mem h (L ++ R) → PX Try.prog 0 S (retPost Try.prog [] fun r h' => ∃ L2, r = .tup [] ∧ ME k res L2 ∧ Mem h' (L2 ++ R)) [] h) :
    ∀ (m : Nat) (i : Int) (s : σ) (L : List Ent) (h : Heap), m = Int.toNat ((c.length : Int) - i) → 0 ≤ i → ME (csl (c.drop i.toNat) + k) s L → Mem h (L ++ R) → wkL ap ts (c.drop i.toNat) s = res →
      RC Try.prog (.loop ac42_L1) S (retPost Try.prog [] fun r h' => ∃ L2, r = .tup [] ∧ ME k res L2 ∧ Mem h' (L2 ++ R)) [(4, vi i), (1, vc), (0, p)] h := by
  have hbd := sl_bound rc
  intro m
  induction m with
  | zero =>
    intro i s L h hm h0 hM M hres
    have hd : c.drop i.toNat = [] := List.drop_eq_nil_of_le (by omega)
    rw [hd, wkL_nil] at hres
    rw [hd] at hM
    refine rc_loop ?_
    unfold ac42_L1
    refine rc_seq ?_
    refine rc_seq ?_
    refine rc_region ?_
    refine rd_op (ov_move rfl) ?_
    refine rd_op (ov_move rfl) ?_
    refine rd_op (ov_bi rfl (sl_len rc Try.underlying28 _)) ?_
    refine rd_op (ov_bin rfl rfl i_lss) ?_
    refine rd_nil ?_
    refine pn_seq ?_
    refine rc_cond rfl (fun hc => ?_) (fun hc => ?_)
    · exfalso
      simp only [decide_eq_true_eq] at hc
      omega
    · refine rc_exit ?_
      refine px_seq ?_
      refine px_again ?_
      subst hres
      refine px_weak (sub_nil _) (hK0 _ L ?_ M)
      simpa [csl] using hM
  | succ m ih =>
    intro i s L h hm h0 hM M hres
    have h1 : i < c.length := by omega
    have hinc : wr (i + 1) = i + 1 := wr_of (by omega) (by omega)
    have hd := drop_ix h0 h1
    rw [hd, wkL_cons, wkN_eq] at hres
    have hgn := hG.at h0 h1
    have hb1 := brN_csl ap ts (ix c i) s
    have hcm := csl_mem (ix_mem h0 h1)
    rw [hd, csl] at hM
    obtain ⟨j, hj⟩ : ∃ j, csn (ix c i) = csl (brN ap ts (ix c i) s).1 + j + 1 := ⟨csn (ix c i) - csl (brN ap ts (ix c i) s).1 - 1, by omega⟩
    have hb : ME (csl (brN ap ts (ix c i) s).1 + (j + (csl (c.drop (i + 1).toNat) + k)) + 1) s L := by
      rw [show csl (brN ap ts (ix c i) s).1 + (j + (csl (c.drop (i + 1).toNat) + k)) + 1 = csn (ix c i) + csl (c.drop (i + 1).toNat) + k by omega]
      exact hM
    have hgb := brN_gl ap ts hgn s
    have down : ∀ {s' L'}, ME (j + (csl (c.drop (i + 1).toNat) + k)) s' L' → ME (csl (c.drop (i + 1).toNat) + k) s' L' := fun {s' L'} hh => monoN mono j (by rw [Nat.add_comm]; exact hh)
    obtain ⟨v1, e1, r1⟩ := sl_idx (i := i) rc h0 h1
    obtain ⟨v2, e2, r2⟩ := api_ControlNode.g_Cond r1
    obtain ⟨v3, e3, r3⟩ := api_ControlNode.g_Then r1
    obtain ⟨v4, e4, r4⟩ := api_ControlNode.g_Else r1
    obtain ⟨c2, c3, c4, ee, -, -, -⟩ := api_ControlNode.op_of r1
    subst ee
    refine rc_loop ?_
    unfold ac42_L1
    refine rc_seq ?_
    refine rc_seq ?_
    refine rc_region ?_
    refine rd_op (ov_move rfl) ?_
    refine rd_op (ov_move rfl) ?_
    refine rd_op (ov_bi rfl (sl_len rc Try.underlying28 _)) ?_
    refine rd_op (ov_bin rfl rfl i_lss) ?_
    refine rd_nil ?_
    refine pn_seq ?_
    refine rc_cond rfl (fun hc => ?_) (fun hc => ?_)
    · refine rc_skip ?_
      refine pn_seq ?_
      refine rc_seq ?_
      refine rc_block ?_
      refine rc_seq ?_
      refine rc_region ?_
      refine rd_op (ov_move rfl) ?_
      refine rd_op (ov_move rfl) ?_
      refine rd_op (ov_iaddr rfl rfl e1) ?_
      refine rd_op (ov_faddr rfl rfl) ?_
      refine rd_op (ov_load rfl rfl rfl) ?_
      refine rd_nil ?_
      refine pn_seq ?_
      refine rc_block ?_
      refine rc_seq ?_
      refine rc_region ?_
      refine rd_op (ov_bin rfl rfl i_eql) ?_
      refine rd_op (ov_move rfl) ?_
      refine rd_nil ?_
      refine pn_seq ?_
      refine rc_cond rfl (fun hk1 => ?_) (fun hk1 => ?_)
      · simp only [decide_eq_true_eq] at hk1
        have eb : brN ap ts (ix c i) s = ([], (ap (ix c i).Table s).2) := by simp [brN, hk1]
        rw [eb] at hb hres
        simp only [wkL_nil] at hres
        refine rc_regionS ?_
        refine rs_step (rd_op (ov_move rfl) (rs_back ?_))
        refine rs_step (rd_op (ov_move rfl) (rs_back ?_))
        refine rs_step (rd_op (ov_move rfl) (rs_back ?_))
        refine rs_step (rd_op (ov_iaddr rfl rfl e1) (rs_back ?_))
        refine rs_step (rd_op (ov_faddr rfl rfl) (rs_back ?_))
        refine rs_step (rd_op (ov_load rfl rfl rfl) (rs_back ?_))
        obtain ⟨h2, L2, X, E2, M2⟩ := HA _ (ix c i).Table s L R h hb M
        refine rs_callG (az0 := [p, vi (ix c i).Table]) (fv := .fn (.func 40) [] []) rfl rfl rfl X ?_
        refine rs_nil ?_
        have E3 := down (monoN (k := j + (csl (c.drop (i + 1).toNat) + k)) mono (csl ([] : List api_ControlNode)) (by rw [Nat.add_comm]; exact E2))
        refine pn_blk ?_
        refine pn_blk ?_
        refine pn_seq ?_
        refine rc_region ?_
        refine rd_op (ov_move rfl) ?_
        refine rd_op (ov_bin rfl rfl i_add) ?_
        refine rd_op (ov_move rfl) ?_
        refine rd_nil ?_
        refine pn_again ?_
        rw [hinc]
        refine rc_weak ?_ (ih (i + 1) _ L2 _ (by omega) (by omega) E3 M2 hres)
        exact ((sub_cons rfl (sub_cons rfl (sub_cons rfl (sub_nil _)))))
      · simp only [decide_eq_false_iff_not] at hk1
        refine rc_seq ?_
        refine rc_seq ?_
        refine rc_region ?_
        refine rd_op (ov_bin rfl rfl i_eql) ?_
        refine rd_op (ov_move rfl) ?_
        refine rd_nil ?_
        refine pn_seq ?_
        refine rc_cond rfl (fun hk3 => ?_) (fun hk3 => ?_)
        · simp only [decide_eq_true_eq] at hk3
          have eb : brN ap ts (ix c i) s = (if (ap (ix c i).Table s).1 = true then (ix c i).Then else (ix c i).Else, (ap (ix c i).Table s).2) := by simp [brN, hk3]
          rw [eb] at hb hres hj
          dsimp only at hb hres hj
          refine rc_skip ?_
          refine pn_seq ?_
          refine rc_cond rfl (fun _ => ?_) (fun hc => by simp only [decide_eq_false_iff_not] at hc; omega)
          refine rc_seq ?_
          refine rc_region ?_
          refine rd_op (ov_move rfl) ?_
          refine rd_nil ?_
          refine pn_seq ?_
          refine rc_seq ?_
          refine rc_seq ?_
          refine rc_region ?_
          refine rd_op (ov_move rfl) ?_
          refine rd_op (ov_move rfl) ?_
          refine rd_op (ov_iaddr rfl rfl e1) ?_
          refine rd_op (ov_faddr rfl rfl) ?_
          refine rd_op (ov_load rfl rfl rfl) ?_
          refine rd_op (ov_bin rfl rfl i_eql) ?_
          refine rd_nil ?_
          refine pn_seq ?_
          refine rc_cond rfl (fun _ => ?_) (fun hc => by simp only [decide_eq_false_iff_not] at hc; omega)
          refine rc_regionS ?_
          refine rs_step (rd_op (ov_move rfl) (rs_back ?_))
          refine rs_step (rd_op (ov_move rfl) (rs_back ?_))
          refine rs_step (rd_op (ov_move rfl) (rs_back ?_))
          refine rs_step (rd_op (ov_iaddr rfl rfl e1) (rs_back ?_))
          refine rs_step (rd_op (ov_faddr rfl rfl) (rs_back ?_))
          refine rs_step (rd_op (ov_load rfl rfl rfl) (rs_back ?_))
          obtain ⟨h2, L2, X, E2, M2⟩ := HA _ (ix c i).Table s L R h hb M
          generalize hst : ap (ix c i).Table s = st at *
          obtain ⟨b1, s1⟩ := st
          refine rs_callG (az0 := [p, vi (ix c i).Table]) (fv := .fn (.func 40) [] []) rfl rfl rfl X ?_
          refine rs_step (rd_op (ov_move rfl) (rs_back ?_))
          refine rs_nil ?_
          refine pn_seq ?_
          refine rc_seq ?_
          refine rc_region ?_
          refine rd_op (ov_move rfl) ?_
          refine rd_nil ?_
          refine pn_seq ?_
          cases b1 with
          | true =>
            have hgb2 : GL (ix c i).Then := hgn.thn
            refine rc_cond rfl (fun _ => ?_) (fun hc => by cases hc)
            refine rc_regionS ?_
            refine rs_step (rd_op (ov_move rfl) (rs_back ?_))
            refine rs_step (rd_op (ov_move rfl) (rs_back ?_))
            refine rs_step (rd_op (ov_move rfl) (rs_back ?_))
            refine rs_step (rd_op (ov_iaddr rfl rfl e1) (rs_back ?_))
            refine rs_step (rd_op (ov_faddr rfl e3) (rs_back ?_))
            refine rs_step (rd_op (ov_load rfl (TR.cnt (tSl api_ControlNode.t) r3) (TR.agg (tSl api_ControlNode.t) r3)) (rs_back ?_))
            simp only [if_true] at E2 hres hj
            obtain ⟨h3, L3, X3, E3, M3⟩ := IH _ (by omega) hgb2 (j + (csl (c.drop (i + 1).toNat) + k)) _ s1 L2 R h2 r3 E2 M2
            refine rs_callG (az0 := [p, v3]) (fv := .fn (.func 42) [] []) rfl rfl rfl X3 ?_
            refine rs_nil ?_
            refine pn_blk ?_
            refine pn_blk ?_
            refine pn_seq ?_
            refine rc_region ?_
            refine rd_op (ov_move rfl) ?_
            refine rd_op (ov_bin rfl rfl i_add) ?_
            refine rd_op (ov_move rfl) ?_
            refine rd_nil ?_
            refine pn_again ?_
            rw [hinc]
            refine rc_weak ?_ (ih (i + 1) _ L3 _ (by omega) (by omega) (down E3) M3 hres)
            exact ((sub_cons rfl (sub_cons rfl (sub_cons rfl (sub_nil _)))))
          | false =>
            have hgb2 : GL (ix c i).Else := hgn.els
            refine rc_cond rfl (fun hc => by cases hc) (fun _ => ?_)
            refine rc_regionS ?_
            refine rs_step (rd_op (ov_move rfl) (rs_back ?_))
            refine rs_step (rd_op (ov_move rfl) (rs_back ?_))
            refine rs_step (rd_op (ov_move rfl) (rs_back ?_))
            refine rs_step (rd_op (ov_iaddr rfl rfl e1) (rs_back ?_))
            refine rs_step (rd_op (ov_faddr rfl e4) (rs_back ?_))
            refine rs_step (rd_op (ov_load rfl (TR.cnt (tSl api_ControlNode.t) r4) (TR.agg (tSl api_ControlNode.t) r4)) (rs_back ?_))
            simp only [Bool.false_eq_true, if_false] at E2 hres hj
            obtain ⟨h3, L3, X3, E3, M3⟩ := IH _ (by omega) hgb2 (j + (csl (c.drop (i + 1).toNat) + k)) _ s1 L2 R h2 r4 E2 M2
            refine rs_callG (az0 := [p, v4]) (fv := .fn (.func 42) [] []) rfl rfl rfl X3 ?_
            refine rs_nil ?_
            refine pn_blk ?_
            refine pn_blk ?_
            refine pn_seq ?_
            refine rc_region ?_
            refine rd_op (ov_move rfl) ?_
            refine rd_op (ov_bin rfl rfl i_add) ?_
            refine rd_op (ov_move rfl) ?_
            refine rd_nil ?_
            refine pn_again ?_
            rw [hinc]
            refine rc_weak ?_ (ih (i + 1) _ L3 _ (by omega) (by omega) (down E3) M3 hres)
            exact ((sub_cons rfl (sub_cons rfl (sub_cons rfl (sub_nil _)))))
        · simp only [decide_eq_false_iff_not] at hk3
          refine rc_region ?_
          refine rd_op (ov_bin rfl rfl i_eql) ?_
          refine rd_op (ov_move rfl) ?_
          refine rd_nil ?_
          refine pn_seq ?_
          refine rc_cond rfl (fun hk2 => ?_) (fun hk2 => ?_)
          · simp only [decide_eq_true_eq] at hk2
            have eb : brN ap ts (ix c i) s = (if (ts (ix c i).Cond s).1 = true then (ix c i).Then else (ix c i).Else, (ts (ix c i).Cond s).2) := by simp [brN, hk2]
            rw [eb] at hb hres hj
            dsimp only at hb hres hj
            refine rc_seq ?_
            refine rc_region ?_
            refine rd_op (ov_move rfl) ?_
            refine rd_nil ?_
            refine pn_seq ?_
            refine rc_seq ?_
            refine rc_seq ?_
            refine rc_region ?_
            refine rd_op (ov_move rfl) ?_
            refine rd_op (ov_move rfl) ?_
            refine rd_op (ov_iaddr rfl rfl e1) ?_
            refine rd_op (ov_faddr rfl rfl) ?_
            refine rd_op (ov_load rfl rfl rfl) ?_
            refine rd_op (ov_bin rfl rfl i_eql) ?_
            refine rd_nil ?_
            refine pn_seq ?_
            refine rc_cond rfl (fun hc => by simp only [decide_eq_true_eq] at hc; omega) (fun _ => ?_)
            refine rc_regionS ?_
            refine rs_step (rd_op (ov_move rfl) (rs_back ?_))
            refine rs_step (rd_op (ov_move rfl) (rs_back ?_))
            refine rs_step (rd_op (ov_move rfl) (rs_back ?_))
            refine rs_step (rd_op (ov_iaddr rfl rfl e1) (rs_back ?_))
            refine rs_step (rd_op (ov_faddr rfl e2) (rs_back ?_))
            refine rs_step (rd_op (ov_load rfl (TR.cnt (tSl api_ExprNode.t) r2) (TR.agg (tSl api_ExprNode.t) r2)) (rs_back ?_))
            obtain ⟨h2, L2, X, E2, M2⟩ := HT _ (ix c i).Cond _ s L R h hgn.cond r2 hb M
            generalize hst : ts (ix c i).Cond s = st at *
            obtain ⟨b1, s1⟩ := st
            refine rs_callG (az0 := [p, v2]) (fv := .fn (.func 41) [] []) rfl rfl rfl X ?_
            refine rs_step (rd_op (ov_move rfl) (rs_back ?_))
            refine rs_nil ?_
            refine pn_seq ?_
            refine rc_seq ?_
            refine rc_region ?_
            refine rd_op (ov_move rfl) ?_
            refine rd_nil ?_
            refine pn_seq ?_
            cases b1 with
            | true =>
              have hgb2 : GL (ix c i).Then := hgn.thn
              refine rc_cond rfl (fun _ => ?_) (fun hc => by cases hc)
              refine rc_regionS ?_
              refine rs_step (rd_op (ov_move rfl) (rs_back ?_))
              refine rs_step (rd_op (ov_move rfl) (rs_back ?_))
              refine rs_step (rd_op (ov_move rfl) (rs_back ?_))
              refine rs_step (rd_op (ov_iaddr rfl rfl e1) (rs_back ?_))
              refine rs_step (rd_op (ov_faddr rfl e3) (rs_back ?_))
              refine rs_step (rd_op (ov_load rfl (TR.cnt (tSl api_ControlNode.t) r3) (TR.agg (tSl api_ControlNode.t) r3)) (rs_back ?_))
              simp only [if_true] at E2 hres hj
              obtain ⟨h3, L3, X3, E3, M3⟩ := IH _ (by omega) hgb2 (j + (csl (c.drop (i + 1).toNat) + k)) _ s1 L2 R h2 r3 E2 M2
              refine rs_callG (az0 := [p, v3]) (fv := .fn (.func 42) [] []) rfl rfl rfl X3 ?_
              refine rs_nil ?_
              refine pn_blk ?_
              refine pn_blk ?_
              refine pn_seq ?_
              refine rc_region ?_
              refine rd_op (ov_move rfl) ?_
              refine rd_op (ov_bin rfl rfl i_add) ?_
              refine rd_op (ov_move rfl) ?_
              refine rd_nil ?_
              refine pn_again ?_
              rw [hinc]
              refine rc_weak ?_ (ih (i + 1) _ L3 _ (by omega) (by omega) (down E3) M3 hres)
              exact ((sub_cons rfl (sub_cons rfl (sub_cons rfl (sub_nil _)))))
            | false =>
              have hgb2 : GL (ix c i).Else := hgn.els
              refine rc_cond rfl (fun hc => by cases hc) (fun _ => ?_)
              refine rc_regionS ?_
              refine rs_step (rd_op (ov_move rfl) (rs_back ?_))
              refine rs_step (rd_op (ov_move rfl) (rs_back ?_))
              refine rs_step (rd_op (ov_move rfl) (rs_back ?_))
              refine rs_step (rd_op (ov_iaddr rfl rfl e1) (rs_back ?_))
              refine rs_step (rd_op (ov_faddr rfl e4) (rs_back ?_))
              refine rs_step (rd_op (ov_load rfl (TR.cnt (tSl api_ControlNode.t) r4) (TR.agg (tSl api_ControlNode.t) r4)) (rs_back ?_))
              simp only [Bool.false_eq_true, if_false] at E2 hres hj
              obtain ⟨h3, L3, X3, E3, M3⟩ := IH _ (by omega) hgb2 (j + (csl (c.drop (i + 1).toNat) + k)) _ s1 L2 R h2 r4 E2 M2
              refine rs_callG (az0 := [p, v4]) (fv := .fn (.func 42) [] []) rfl rfl rfl X3 ?_
              refine rs_nil ?_
              refine pn_blk ?_
              refine pn_blk ?_
              refine pn_seq ?_
              refine rc_region ?_
              refine rd_op (ov_move rfl) ?_
              refine rd_op (ov_bin rfl rfl i_add) ?_
              refine rd_op (ov_move rfl) ?_
              refine rd_nil ?_
              refine pn_again ?_
              rw [hinc]
              refine rc_weak ?_ (ih (i + 1) _ L3 _ (by omega) (by omega) (down E3) M3 hres)
              exact ((sub_cons rfl (sub_cons rfl (sub_cons rfl (sub_nil _)))))
          · simp only [decide_eq_false_iff_not] at hk2
            have eb : brN ap ts (ix c i) s = ([], s) := by simp [brN, hk1, hk2, hk3]
            rw [eb] at hb hres
            simp only [wkL_nil] at hres
            have E3 := down (monoN (k := j + (csl (c.drop (i + 1).toNat) + k)) mono (csl ([] : List api_ControlNode)) (by rw [Nat.add_comm]; exact mono _ _ _ hb))
            refine rc_skip ?_
            refine pn_blk ?_
            refine pn_blk ?_
            refine pn_seq ?_
            refine rc_region ?_
            refine rd_op (ov_move rfl) ?_
            refine rd_op (ov_bin rfl rfl i_add) ?_
            refine rd_op (ov_move rfl) ?_
            refine rd_nil ?_
            refine pn_again ?_
            rw [hinc]
            refine rc_weak ?_ (ih (i + 1) _ L _ (by omega) (by omega) E3 M hres)
            exact ((sub_cons rfl (sub_cons rfl (sub_cons rfl (sub_nil _)))))
    · exfalso
      simp only [decide_eq_false_iff_not] at hc
      omega
theorem f42_run (mono : ∀ k s L, ME (k + 1) s L → ME k s L) (HA : APPV 40 [p] [] ap ME) (HT : TSTV 41 [p] [] ts ME) : ∀ (n : Nat) (c : List api_ControlNode), csl c < n → GL c → XRUN p ap ts ME c
  | 0, c, hn, _ => by omega
  | n + 1, c, hn, hG => by
    intro k vc s L R h rc hM M
    have IH : ∀ c', csl c' < csl c → GL c' → XRUN p ap ts ME c' := fun c' hc hg => f42_run mono HA HT n c' (by omega) hg
    obtain ⟨res, hres⟩ : ∃ res, wkL ap ts c s = res := ⟨_, rfl⟩
    suffices H : RC Try.prog ac42 [] (retPost Try.prog [] fun r h' => ∃ L2, r = .tup [] ∧ ME k res L2 ∧ Mem h' (L2 ++ R)) (argE 0 [p, vc]) h by
      obtain ⟨r, h2, X, L2, hr, hE, hM2⟩ := fnX text42 (by simp) H
      rw [hres]
      subst hr
      exact ⟨h2, L2, X, hE, hM2⟩
    unfold ac42
    refine rc_seq ?_
    refine rc_region ?_
    refine rd_op (v := vi 0) (ov_move rfl) ?_
    refine rd_nil ?_
    refine pn_seq ?_
    refine rc_block ?_
    refine rc_weak ?_ (exec_loop mono HA HT rc hG IH (k := k) ?_ (Int.toNat ((c.length : Int) - 0)) 0 s L h rfl (by omega) hM M hres)
    · exact ((sub_cons rfl (sub_cons rfl (sub_cons rfl (sub_nil _)))))
    · intro h2 L2 hE M2
      refine px_blk ?_
      exact pn_endX .nil ⟨L2, rfl, hE, M2⟩
end
end Go.Proofs.Ytkgnjpoafilicaa
