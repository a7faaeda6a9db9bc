import Derived.Test.YthdnpgpnodgicaaGreatKFmFn
set_option linter.unusedVariables false
set_option linter.unusedSimpArgs false
set_option maxRecDepth 100000
namespace Go.Proofs.YthdnpgpnodgicaaGreat
open Go Go.Pb Go.RowKit
theorem ag2 (W : List Int) (k : List (BitVec 32)) : ∀ (m : Nat) (i : Int), m = Int.toNat ((W.length : Int) - i) → 0 ≤ i → fitsL W k m i = true → ∀ j : Int, i ≤ j → j < W.length → gz (ix k j) (ix W j) = true
 | 0, i, hm, h0, h => fun j h1 h2 => by omega
 | m + 1, i, hm, h0, h => by
   rw [fitsL] at h
   by_cases hc : gz (ix k i) (ix W i) = true
   ·rw [if_neg (by simp [hc])] at h
    intro j h1 h2
    by_cases hj : j = i
    ·subst hj; exact hc
    ·exact ag2 W k m (i + 1) (by omega) (by omega) h j (by omega) h2
   ·rw [if_pos (by simpa using hc)] at h; cases h
theorem ah6 {W : List Int} {k : List (BitVec 32)} (h : fitsK W k = true) : ∀ j : Int, 0 ≤ j → j < W.length → gz (ix k j) (ix W j) = true := ag2 W k _ 0 (by omega) (by omega) h
theorem bh8 {a b : ay} (h : a.Value = b.Value) (k : a.Mask = b.Mask) : a = b := by
 cases a; cases b
 simp_all
section
variable {p : aa} {t : Int} {l : List aj} (G : GoodR p t l)
include G
theorem g_t : 0 ≤ t ∧ t < p.Tables.length := (yd G.tc).1
theorem g_n : (ix p.Tables t).Keys.length ≤ 6 := (yd G.tc).2.1
theorem g_w : (db p t).length = (ix p.Tables t).Keys.length := (reck rfl G.tc rfl).2.1
theorem ua {i : Int} (h0 : 0 ≤ i) (h1 : i < l.length) : RowG p t (ix l i).Entry := bo3 (G.rc i h0 h1)
theorem al6 {i : Int} (h0 : 0 ≤ i) (h1 : i < l.length) {k : Int} (k0 : 0 ≤ k) (k1 : k < (ix p.Tables t).Keys.length) : KeyG (ix (ix l i).Entry.Keys k) (ix (db p t) k) (ix (ix p.Tables t).Keys k).Kind :=
 ca0 ((ua G h0 h1).k k k0 (by rw [(ua G h0 h1).n]; exact k1))
theorem ae2 {i : Int} (h0 : 0 ≤ i) (h1 : i < l.length) : (jw (ix l i).Entry).length = (ix p.Tables t).Keys.length := by
 rw [zq, List.length_map, (ua G h0 h1).n]
theorem bx7 {i : Int} (h0 : 0 ≤ i) (h1 : i < l.length) {k : Int} (k0 : 0 ≤ k) (k1 : k < (ix p.Tables t).Keys.length) : ix (jw (ix l i).Entry) k = (ix (ix l i).Entry.Keys k).Value := by
 rw [zq, ap8 _ k0 (by rw [(ua G h0 h1).n]; exact k1)]
variable (hk : lc p t ≠ 3)
include hk
theorem cf7 {k : Int} (k0 : 0 ≤ k) (k1 : k < (ix p.Tables t).Keys.length) (hne : k ≠ lpX (ix p.Tables t).Keys) : (ix (ix p.Tables t).Keys k).Kind = 1 := by
 rcases bw0 G.tc hk k k0 k1 with h | h
 ·exact h
 ·exfalso
  rcases sq (ix p.Tables t).Keys with ⟨_, h2⟩ | ⟨h1, h2, h3, h4⟩
  ·exact h2 k k0 k1 h
  ·rcases Int.lt_or_gt_of_ne hne with h5 | h5
   ·exact bi9 G.tc k _ k0 h5 h2 ⟨h, h3⟩
   ·exact bi9 G.tc _ k h1 h5 k1 ⟨h3, h⟩
theorem ba7 {i : Int} (h0 : 0 ≤ i) (h1 : i < l.length) {k : Int} (k0 : 0 ≤ k) (k1 : k < (ix p.Tables t).Keys.length) (hne : k ≠ lpX (ix p.Tables t).Keys) : (ix (ix l i).Entry.Keys k).Mask = dq (ix (db p t) k) := by
 rw [(al6 G h0 h1 k0 k1).e (cf7 G hk k0 k1 hne), bh9]
omit hk in
theorem g_pl {i : Int} (h0 : 0 ≤ i) (h1 : i < l.length) (hlp : 0 ≤ lpX (ix p.Tables t).Keys) : lpX (ix p.Tables t).Keys < (ix p.Tables t).Keys.length ∧ (dk (ix (ix l i).Entry.Keys (lpX (ix p.Tables t).Keys)).Mask (ix (db p t) (lpX (ix p.Tables t).Keys))).2 = true := by
 rcases sq (ix p.Tables t).Keys with ⟨h, _⟩ | ⟨_, h2, h3, _⟩
 ·omega
 ·exact ⟨h2, by rw [PrefixLen_eq]; exact (al6 G h0 h1 hlp h2).l h3⟩
theorem ct6 {i : Int} (h0 : 0 ≤ i) (h1 : i < l.length) {key : List (BitVec 32)} (hl : key.length = (ix p.Tables t).Keys.length) (hf : fitsK (db p t) key = true) :
 cn (ix l i).Entry key = true ↔ bE (lpX (ix p.Tables t).Keys) (ix l i) = pk key (lpX (ix p.Tables t).Keys) ∧ (0 ≤ lpX (ix p.Tables t).Keys → Agree (ix (db p t) (lpX (ix p.Tables t).Keys)) (plen (ix (db p t) (lpX (ix p.Tables t).Keys)) (lpX (ix p.Tables t).Keys) (ix l i)) (ix key (lpX (ix p.Tables t).Keys)) (ix (ix l i).Entry.Keys (lpX (ix p.Tables t).Keys)).Value) := by
 have hn := g_n G
 have hF := ah6 hf
 rw [g_w G] at hF
 have hR := (ua G h0 h1).n
 unfold bE
 rw [bx1 (by rw [ae2 G h0 h1, hl]) (by rw [ae2 G h0 h1]; exact hn), ax2, ae2 G h0 h1, hR]
 have one : ∀ k : Int, 0 ≤ k → k < (ix p.Tables t).Keys.length → k ≠ lpX (ix p.Tables t).Keys → ((ix key k ^^^ (ix (ix l i).Entry.Keys k).Value) &&& (ix (ix l i).Entry.Keys k).Mask = 0#32 ↔ ix (jw (ix l i).Entry) k = ix key k) := by
  intro k k0 k1 hne
  rw [ba7 G hk h0 h1 k0 k1 hne, bx7 G h0 h1 k0 k1]
  have f1 := ((ag6 _ _).1 (by rw [← vw]; exact hF k k0 k1)).2
  have f2 := ((ag6 _ _).1 (al6 G h0 h1 k0 k1).f).2
  constructor
  ·intro h; exact (at5 f1 f2 h).symm
  ·intro h; rw [h]; simp
 have two : 0 ≤ lpX (ix p.Tables t).Keys → ((ix key (lpX (ix p.Tables t).Keys) ^^^ (ix (ix l i).Entry.Keys (lpX (ix p.Tables t).Keys)).Value) &&& (ix (ix l i).Entry.Keys (lpX (ix p.Tables t).Keys)).Mask = 0#32 ↔ Agree (ix (db p t) (lpX (ix p.Tables t).Keys)) (plen (ix (db p t) (lpX (ix p.Tables t).Keys)) (lpX (ix p.Tables t).Keys) (ix l i)) (ix key (lpX (ix p.Tables t).Keys)) (ix (ix l i).Entry.Keys (lpX (ix p.Tables t).Keys)).Value) := by
  intro hlp
  obtain ⟨hw, n0, n1, e⟩ := sa (g_pl G h0 h1 hlp).2
  have := ak2 (ix key (lpX (ix p.Tables t).Keys)) (ix (ix l i).Entry.Keys (lpX (ix p.Tables t).Keys)).Value hw n0 n1
  rw [e] at this
  exact this
 constructor
 ·rintro ⟨_, h⟩
  exact ⟨fun k k0 k1 hne => (one k k0 k1 hne).1 (h k k0 k1), fun hlp => (two hlp).1 (h _ hlp (g_pl G h0 h1 hlp).1)⟩
 ·rintro ⟨h2, h3⟩
  refine ⟨hl, fun k k0 k1 => ?_⟩
  by_cases hne : k = lpX (ix p.Tables t).Keys
  ·rw [hne] at k0 ⊢
   exact (two k0).2 (h3 k0)
  ·exact (one k k0 k1 hne).2 (h2 k k0 k1 hne)
theorem bt0 {j i : Int} (j0 : 0 ≤ j) (j1 : j < l.length) (h0 : 0 ≤ i) (h1 : i < l.length) (he : bE (lpX (ix p.Tables t).Keys) (ix l j) = bE (lpX (ix p.Tables t).Keys) (ix l i))
 (hp : 0 ≤ lpX (ix p.Tables t).Keys → plen (ix (db p t) (lpX (ix p.Tables t).Keys)) (lpX (ix p.Tables t).Keys) (ix l j) = plen (ix (db p t) (lpX (ix p.Tables t).Keys)) (lpX (ix p.Tables t).Keys) (ix l i) ∧ Agree (ix (db p t) (lpX (ix p.Tables t).Keys)) (plen (ix (db p t) (lpX (ix p.Tables t).Keys)) (lpX (ix p.Tables t).Keys) (ix l i)) (ix (ix l j).Entry.Keys (lpX (ix p.Tables t).Keys)).Value (ix (ix l i).Entry.Keys (lpX (ix p.Tables t).Keys)).Value) : j = i := by
 have hn := g_n G
 have Rj := ua G j0 j1
 have Ri := ua G h0 h1
 have hs : gb (ix l j).Entry (ix l i).Entry = true := by
  rw [ag0]
  refine ⟨by rw [Rj.n, Ri.n], by rw [Rj.pr hk, Ri.pr hk], fun k k0 k1 => ?_⟩
  rw [Rj.n] at k1
  unfold bE at he
  rw [bx1 (by rw [ae2 G j0 j1, ae2 G h0 h1]) (by rw [ae2 G j0 j1]; exact hn), ae2 G j0 j1] at he
  by_cases hne : k = lpX (ix p.Tables t).Keys
  ·subst hne
   obtain ⟨e1, e2⟩ := hp k0
   obtain ⟨hw, n0, n1, m1⟩ := sa (g_pl G h0 h1 k0).2
   obtain ⟨_, _, _, m2⟩ := sa (g_pl G j0 j1 k0).2
   have hM : (ix (ix l j).Entry.Keys (lpX (ix p.Tables t).Keys)).Mask = (ix (ix l i).Entry.Keys (lpX (ix p.Tables t).Keys)).Mask := by
    rw [← m1, ← m2]
    unfold plen at e1
    rw [e1]
   refine bh8 ?_ hM
   have a1 := (ak2 (ix (ix l j).Entry.Keys (lpX (ix p.Tables t).Keys)).Value (ix (ix l i).Entry.Keys (lpX (ix p.Tables t).Keys)).Value hw n0 n1).2 e2
   rw [m1] at a1
   have v1 := (al6 G j0 j1 k0 k1).v
   rw [hM] at v1
   exact at5 v1 (al6 G h0 h1 k0 k1).v a1
  ·refine bh8 ?_ (by rw [ba7 G hk j0 j1 k0 k1 hne, ba7 G hk h0 h1 k0 k1 hne])
   have := he k k0 k1 hne
   rwa [bx7 G j0 j1 k0 k1, bx7 G h0 h1 k0 k1] at this
 rcases Int.lt_trichotomy j i with h | h | h
 ·exact absurd (.inr hs) (G.ds j i j0 h h1)
 ·exact h
 ·refine absurd (.inr ?_) (G.ds i j h0 h j1)
  rw [ag0] at hs ⊢
  exact ⟨hs.1.symm, hs.2.1.symm, fun k k0 k1 => (hs.2.2 k k0 (by rw [hs.1]; exact k1)).symm⟩
omit G in
theorem g_bN : bNd p t l = bL (ix (db p t) (lpX (ix p.Tables t).Keys)) (lpX (ix p.Tables t).Keys) l l.length 0 ([], []) := by
 unfold bNd bR
 rw [Kind_eq, if_neg hk, Widths_eq]
omit G in
theorem cw8 : lpN p t = lpX (ix p.Tables t).Keys := by
 unfold lpN
 rw [Kind_eq, if_neg hk]
theorem g_TI (hlp : 0 ≤ lpX (ix p.Tables t).Keys) : TI (ix (db p t) (lpX (ix p.Tables t).Keys)) (lpX (ix p.Tables t).Keys) l l.length (bNd p t l).2 := by
 rw [g_bN hk]
 refine bL_T (by omega) (fun i h0 h1 ts H => ?_) _ 0 _ (by omega) (by omega) (by omega) (fun e => by simp only [wget]; intro j h1 h2; omega)
 obtain ⟨hl, hp⟩ := g_pl G h0 h1 hlp
 refine H.step h0 hp (by rw [vw]; exact (al6 G h0 h1 hlp hl).f) fun j j0 j1 he e1 e2 => ?_
 have := bt0 G hk j0 (by omega) h0 h1 he fun _ => ⟨e1, e2⟩
 omega
omit G hk in
theorem wl {x : au} (hx : x.Keys.length = (ix p.Tables t).Keys.length) (hlp : 0 ≤ lpX (ix p.Tables t).Keys) : ∀ (m : Nat) (i : Int), m = Int.toNat (((ix p.Tables t).Keys.length : Int) - i) → 0 ≤ i → i ≤ lpX (ix p.Tables t).Keys → fj p t x (fun _ => 0) m i = iy (ix x.Keys (lpX (ix p.Tables t).Keys)).Mask
 | 0, i, hm, h0, h1 => by
   rcases sq (ix p.Tables t).Keys with ⟨h, _⟩ | ⟨_, h2, h3, _⟩ <;> omega
 | m + 1, i, hm, h0, h1 => by
   rw [fj]
   rcases sq (ix p.Tables t).Keys with ⟨h, _⟩ | ⟨_, h2, h3, h4⟩
   ·omega
   ·by_cases hi : i = lpX (ix p.Tables t).Keys
    ·rw [hi, if_pos (by simpa using h3), if_pos (by rw [decide_eq_true_eq, hx]; exact h2)]
     rfl
    ·rw [if_neg (by simpa using h4 i h0 (by omega))]
     exact wl hx hlp m (i + 1) (by omega) (by omega) (by omega)
omit hk in
theorem by9 {i : Int} (h0 : 0 ≤ i) (h1 : i < l.length) (hlp : 0 ≤ lpX (ix p.Tables t).Keys) : fk p t (ix l i).Entry = plen (ix (db p t) (lpX (ix p.Tables t).Keys)) (lpX (ix p.Tables t).Keys) (ix l i) := by
 have ht := g_t G
 unfold fk
 rw [if_neg (by simp; omega), wl (ua G h0 h1).n hlp _ 0 rfl (by omega) hlp]
 exact bl8 (g_pl G h0 h1 hlp).2
theorem dj2 {key : List (BitVec 32)} (hl : key.length = (ix p.Tables t).Keys.length) (hf : fitsK (db p t) key = true) : findP p t l key = iv p t l key := by
 have ht := g_t G
 have hM := fun {i : Int} (h0 : 0 ≤ i) (h1 : i < l.length) => ct6 G hk h0 h1 hl hf
 unfold findP
 rw [if_neg (by unfold slowB; rw [Kind_eq, Widths_eq, hf]; simp [hk, hl]), cw8 hk, Widths_eq]
 by_cases hlp : lpX (ix p.Tables t).Keys < 0
 ·rw [if_pos hlp, g_bN hk]
  rcases bL_M hlp (w := ix (db p t) (lpX (ix p.Tables t).Keys)) (l := l) l.length 0 ([], []) (by omega) (by omega) (pk key (lpX (ix p.Tables t).Keys)) with ⟨j, h1, h2, h3, h4⟩ | ⟨h1, h2⟩
  ·rw [h1]
   refine (zl ht (qf.2 ⟨j, h2, h3, rfl⟩) ((hM h2 h3).2 ⟨h4, fun h => by omega⟩) fun x hx hm => .inl ?_).symm
   obtain ⟨i, i0, i1, rfl⟩ := qf.1 hx
   rw [bt0 G hk i0 i1 h2 h3 (((hM i0 i1).1 hm).1.trans h4.symm) fun h => by omega]
  ·rw [h1]
   refine (vm ht fun x hx => ?_).symm
   obtain ⟨i, i0, i1, rfl⟩ := qf.1 hx
   rw [Bool.eq_false_iff]
   intro hm
   exact h2 i i0 i1 ((hM i0 i1).1 hm).1
 ·have hlp : 0 ≤ lpX (ix p.Tables t).Keys := by omega
  rw [if_neg (by omega)]
  have hTI := g_TI G hk hlp (pk key (lpX (ix p.Tables t).Keys))
  cases hg : wget (bNd p t l).2 (pk key (lpX (ix p.Tables t).Keys)) with
  | none =>
    rw [hg] at hTI
    refine (vm ht fun x hx => ?_).symm
    obtain ⟨i, i0, i1, rfl⟩ := qf.1 hx
    rw [Bool.eq_false_iff]
    intro hm
    exact hTI i i0 i1 ((hM i0 i1).1 hm).1
  | some tr =>
    rw [hg] at hTI
    obtain ⟨_, hT⟩ := hTI
    simp only
    have hlt : lpX (ix p.Tables t).Keys < (ix p.Tables t).Keys.length := by
     rcases sq (ix p.Tables t).Keys with ⟨h, _⟩ | ⟨_, h2, _⟩ <;> omega
    have hfit := ah6 hf _ hlp (by rw [g_w G]; exact hlt)
    have hw := ((ag6 _ _).1 (by rw [← vw]; exact hfit)).1
    generalize hwe : ix (db p t) (lpX (ix p.Tables t).Keys) = w at *
    have hlk : lkR w (ix key (lpX (ix p.Tables t).Keys)) tr = lkT w (ix key (lpX (ix p.Tables t).Keys)) tr 0 (0, 0, false) := by
     unfold lkR pfx
     rw [if_pos]
     simp only [Bool.and_eq_true, decide_eq_true_eq]
     exact ⟨⟨by omega, by omega⟩, hfit⟩
    rw [hlk]
    -- a row that matches stands in the trie
    have hin : ∀ i : Int, 0 ≤ i → i < l.length → cn (ix l i).Entry key = true → ∃ n : Nat, plen w (lpX (ix p.Tables t).Keys) (ix l i) = n ∧ (n : Int) ≤ w ∧ gv w (ix key (lpX (ix p.Tables t).Keys)) n 0 tr = some i := by
     intro i i0 i1 hm
     obtain ⟨h2, h3⟩ := (hM i0 i1).1 hm
     obtain ⟨_, n0, n1, _⟩ := sa (g_pl G i0 i1 hlp).2
     rw [hwe] at n0 n1
     replace n0 : 0 ≤ plen w (lpX (ix p.Tables t).Keys) (ix l i) := n0
     replace n1 : plen w (lpX (ix p.Tables t).Keys) (ix l i) ≤ w := n1
     refine ⟨(plen w (lpX (ix p.Tables t).Keys) (ix l i)).toNat, (Int.toNat_of_nonneg n0).symm, by rw [Int.toNat_of_nonneg n0]; exact n1, ?_⟩
     rw [hT _ _ i (by rw [Int.toNat_of_nonneg n0]; exact n1), Int.toNat_of_nonneg n0]
     exact ⟨i0, i1, h2, rfl, h3 hlp⟩
    rcases yq w (ix key (lpX (ix p.Tables t).Keys)) tr 0 (0, 0, false) (by omega) with ⟨h1, h2⟩ | ⟨n, v, h1, h2, h3, h4⟩
    ·rw [h1, if_neg (by simp)]
     refine (vm ht fun x hx => ?_).symm
     obtain ⟨i, i0, i1, rfl⟩ := qf.1 hx
     rw [Bool.eq_false_iff]
     intro hm
     obtain ⟨n, _, hn, hq⟩ := hin i i0 i1 hm
     rw [h2 n (by omega)] at hq; cases hq
    ·rw [h2, if_pos rfl]
     obtain ⟨v0, v1, v2, v3, v4⟩ := (hT _ _ v (by omega)).1 h3
     refine (zl ht (qf.2 ⟨v, v0, v1, rfl⟩) ((hM v0 v1).2 ⟨v2, fun _ => by rw [v3]; exact v4⟩) fun x hx hm => ?_).symm
     obtain ⟨i, i0, i1, rfl⟩ := qf.1 hx
     obtain ⟨n', e', hn', hq⟩ := hin i i0 i1 hm
     by_cases hnn : n' = n
     ·left
      subst hnn
      rw [h3] at hq
      simp only [Option.some.injEq] at hq
      rw [hq]
     ·right
      have hlt' : n' < n := by
       apply Decidable.byContradiction
       intro hc
       rw [h4 n' (by omega) (by omega)] at hq
       cases hq
      unfold Bf
      rw [by9 G i0 i1 hlp, by9 G v0 v1 hlp, (ua G i0 i1).pr hk, (ua G v0 v1).pr hk, hwe, e', v3]
      exact .inr ⟨rfl, .inl (by omega)⟩
omit hk in
theorem cw9 (key : List (BitVec 32)) : findP p t l key = iv p t l key := by
 by_cases hs : slowB p t key = true
 ·unfold findP
  rw [if_pos hs]
  exact cc2 p t (g_t G) l key
 ·have hs' := hs
  unfold slowB at hs'
  simp only [Bool.or_eq_true, Bool.not_eq_true', decide_eq_false_iff_not, decide_eq_true_eq, not_or, Decidable.not_not, Bool.not_eq_false] at hs'
  rw [Kind_eq, Widths_eq] at hs'
  exact dj2 G hs'.1.1 (by omega) hs'.2
omit hk in
theorem dv1 (hn : l.length ≤ 1000) (hT : p.Tables.length ≤ 1000000) : NewOK p t l := by
 have ht := g_t G
 have h6 := g_n G
 refine ⟨ht.1, ht.2, by omega, by omega, fun hk => ?_⟩
 rw [Kind_eq] at hk
 rw [Widths_eq]
 refine ⟨hn, fun j j0 j1 => by rw [(ua G j0 j1).n]; omega, fun j j0 j1 hlp => ?_, fun hlp hl => ?_⟩
 ·rw [(ua G j0 j1).n]
  exact g_pl G j0 j1 hlp
 ·obtain ⟨h1, h2⟩ := g_pl G (i := 0) (by omega) (by omega) hlp
  obtain ⟨hw, _⟩ := sa h2
  exact ⟨by rw [g_w G]; exact h1, fun h => (al7 _).1 h hw, hw.2⟩
omit hk in
theorem g_ok : FindOK p t l := by
 have ht := g_t G
 have h6 := g_n G
 by_cases hk : lc p t = 3
 ·have e1 : lpN p t = -1 := by unfold lpN; rw [Kind_eq, if_pos hk]
  have e2 : bNd p t l = ([], []) := by unfold bNd bR; rw [Kind_eq, if_pos hk]
  refine ⟨ht.1, ht.2, by omega, by rw [Widths_eq]; exact g_w G, by omega, by omega, fun _ e i h => ?_, by omega⟩
  rw [e2] at h; cases h
 ·have e1 := cw8 hk
  have hW := Widths_eq p t
  refine ⟨ht.1, ht.2, by omega, by rw [hW]; exact g_w G, ?_, fun hlp e tr h => ?_, fun hlp e i h => ?_, fun hlp e tr x h hok => ?_⟩
  ·rw [e1]
   rcases sq (ix p.Tables t).Keys with ⟨h, _⟩ | ⟨_, h2, _⟩ <;> omega
  ·rw [e1] at hlp ⊢
   rw [hW]
   by_cases hl : 0 < l.length
   ·obtain ⟨hw, _⟩ := sa (g_pl G (i := 0) (by omega) (by omega) hlp).2
    exact hw.2
   ·have : l = [] := List.eq_nil_of_length_eq_zero (by omega)
    subst this
    rw [g_bN hk] at h
    cases h
  ·rw [e1] at hlp
   rw [g_bN hk] at h
   rcases bL_M hlp (w := ix (db p t) (lpX (ix p.Tables t).Keys)) (l := l) l.length 0 ([], []) (by omega) (by omega) e with ⟨j, h1, h2, h3, h4⟩ | ⟨h1, h2⟩
   ·rw [h1] at h
    simp only [Option.some.injEq] at h
    subst h
    exact ⟨h2, h3⟩
   ·rw [h1] at h; cases h
  ·rw [e1] at hlp hok ⊢
   rw [hW] at hok ⊢
   have hTI := g_TI G hk hlp e
   rw [h] at hTI
   obtain ⟨_, hT⟩ := hTI
   unfold lkR at hok ⊢
   by_cases hp : pfx (ix (db p t) (lpX (ix p.Tables t).Keys)) x 0 = true
   ·rw [if_pos hp] at hok ⊢
    have hp2 := hp
    unfold pfx at hp2
    simp only [Bool.and_eq_true, decide_eq_true_eq] at hp2
    rcases yq (ix (db p t) (lpX (ix p.Tables t).Keys)) x tr 0 (0, 0, false) (by omega) with ⟨h1, h2⟩ | ⟨n, v, h1, h2, h3, h4⟩
    ·rw [h1] at hok; cases hok
    ·rw [h2]
     have := (hT _ _ v (by omega)).1 h3
     exact ⟨this.1, this.2.1⟩
   ·rw [if_neg hp] at hok; cases hok
end
theorem bk0 (a b : au) (h : gb a b = true) : gb b a = true := by
 rw [ag0] at h ⊢
 exact ⟨h.1.symm, h.2.1.symm, fun k k0 k1 => (h.2.2 k k0 (by rw [h.1]; exact k1)).symm⟩
theorem ay6 {l : List aj} {j i : Int} (h : Clash l j i) : Clash l i j := by
 rcases h with h | h
 ·exact .inl h.symm
 ·exact .inr (bk0 _ _ h)
theorem ay0 (l : List aj) {i : Int} (h0 : 0 ≤ i) (h1 : i < l.length) : ix l.reverse i = ix l (l.length - 1 - i) := by
 rw [oe h0 (by simpa using h1), oe (by omega) (by omega), List.getElem_reverse]
 congr 1; omega
theorem yo {p : aa} {t : Int} {l : List aj} (G : GoodR p t l) : GoodR p t l.reverse := by
 refine ⟨G.tc, fun i h0 h1 => ?_, fun j i h0 h1 h2 hc => ?_⟩
 ·rw [List.length_reverse] at h1
  rw [ay0 l h0 h1]
  exact G.rc _ (by omega) (by omega)
 ·rw [List.length_reverse] at h2
  unfold Clash at hc
  rw [ay0 l h0 (by omega), ay0 l (by omega) h2] at hc
  exact G.ds (l.length - 1 - i) (l.length - 1 - j) (by omega) (by omega) (by omega) (ay6 hc)
theorem ao7 {p : aa} {t : Int} {l : List aj} : GoodR p t l.reverse ↔ GoodR p t l :=
 ⟨fun h => by have := yo h; rwa [List.reverse_reverse] at this, yo⟩
theorem dj4 {p : aa} {t : Int} {l : List aj} (G : GoodR p t l) {a b : aj} (ha : a ∈ l) (hb : b ∈ l) (h : a.ID = b.ID) : a = b := by
 obtain ⟨i, i0, i1, rfl⟩ := qf.1 ha
 obtain ⟨j, j0, j1, rfl⟩ := qf.1 hb
 rcases Int.lt_trichotomy i j with h2 | h2 | h2
 ·exact absurd (.inl h) (G.ds i j i0 h2 j1)
 ·rw [h2]
 ·exact absurd (.inl h.symm) (G.ds j i j0 h2 i1)
theorem bz4 {p : aa} {t : Int} {l : List aj} (G : GoodR p t l) (k : List (BitVec 32)) : iv p t l.reverse k = iv p t l k := by
 have ht := g_t G
 have H := xy p t k l [] (false, zrow) (.inl ⟨rfl, fun r hr => by simp at hr⟩)
 rw [List.nil_append] at H
 have e0 := aq7 p t k l ht
 rcases H with ⟨e, hall⟩ | ⟨pre, c, post, e, hl, hc, h1, h2⟩
 ·rw [e0, e]
  exact vm ht fun x hx => hall x (by simpa using hx)
 ·rw [e0, e]
  have hcl : c ∈ l := by rw [hl]; simp
  show iv p t l.reverse k = (c, true)
  refine zl ht (by simpa using hcl) hc fun x hx hm => ?_
  have hx : x ∈ l := by simpa using hx
  by_cases hxc : x = c
  ·exact .inl hxc
  ·right
   have hid : x.ID ≠ c.ID := fun h => hxc (dj4 G hx hcl h)
   rw [hl] at hx
   rcases List.mem_append.1 hx with hx | hx
   ·exact h1 x hx hm
   ·rcases List.mem_cons.1 hx with hx | hx
    ·exact absurd hx hxc
    ·have := h2 x hx hm
     unfold Bf at *; omega
theorem at6 {p : aa} {t : Int} {l : List aj} (G : GoodR p t l) (k : List (BitVec 32)) : findP p t l.reverse k = findP p t l k := by
 rw [cw9 G, cw9 (yo G), bz4 G]
theorem as4 (p : aa) (t : Int) (l : List aj) : newE p t l.reverse = 0 ↔ newE p t l = 0 := by
 rw [ac0, ac0, xk, xk, ao7]
theorem LookupOrder_law (x0 : cg) : ot x0 = true := rfl
end Go.Proofs.YthdnpgpnodgicaaGreat
