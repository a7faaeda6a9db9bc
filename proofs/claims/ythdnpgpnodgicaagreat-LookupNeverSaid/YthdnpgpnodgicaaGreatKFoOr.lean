import Derived.Test.YthdnpgpnodgicaaGreatKFmFn
set_option linter.all false
set_option maxRecDepth 100000
namespace Go.Proofs.YthdnpgpnodgicaaGreat
open Go Go.Pb Go.RowKit
section
variable {p : aa} {t : Int} {l : List ak} (G : GoodR p t l)
include G
theorem g_t : 0 ≤ t ∧ t < p.Tables.length := (ai7 G.tc).1
theorem g_n : (ix p.Tables t).Keys.length ≤ 6 := (ai7 G.tc).2.1
theorem g_w : (bp p t).length = (ix p.Tables t).Keys.length := (reck rfl G.tc rfl).2.1
theorem aq2 {i : Int} (h0 : 0 ≤ i) (h1 : i < l.length) : RowG p t (ix l i).Entry := ck8 (G.rc i h0 h1)
theorem bw4 {i : Int} (h0 : 0 ≤ i) (h1 : i < l.length) {k : Int} (k0 : 0 ≤ k) (k1 : k < (ix p.Tables t).Keys.length) : KeyG (ix (ix l i).Entry.Keys k) (ix (bp p t) k) (ix (ix p.Tables t).Keys k).Kind :=
 ch6 ((aq2 G h0 h1).k k k0 (by rw [(aq2 G h0 h1).n]; exact k1))
variable (hk : uo p t ≠ 3)
include hk
omit hk in
theorem g_pl {i : Int} (h0 : 0 ≤ i) (h1 : i < l.length) (hlp : 0 ≤ lpX (ix p.Tables t).Keys) : lpX (ix p.Tables t).Keys < (ix p.Tables t).Keys.length ∧ (ej (ix (ix l i).Entry.Keys (lpX (ix p.Tables t).Keys)).Mask (ix (bp p t) (lpX (ix p.Tables t).Keys))).2 = true := by
 rcases ce6 (ix p.Tables t).Keys with ⟨h, _⟩ | ⟨_, h2, h3, _⟩
 ·omega
 ·exact ⟨h2, by rw [PrefixLen_eq]; exact (bw4 G h0 h1 hlp h2).l h3⟩
omit hk in
theorem ej9 (hn : l.length ≤ 1000) (hT : p.Tables.length ≤ 1000000) : NewOK p t l := by
 have ht := g_t G
 have h6 := g_n G
 refine ⟨ht.1, ht.2, by omega, by omega, fun hk => ?_⟩
 rw [Kind_eq] at hk
 rw [Widths_eq]
 refine ⟨hn, fun j j0 j1 => by rw [(aq2 G j0 j1).n]; omega, fun j j0 j1 hlp => ?_, fun hlp hl => ?_⟩
 ·rw [(aq2 G j0 j1).n]
  exact g_pl G j0 j1 hlp
 ·obtain ⟨h1, h2⟩ := g_pl G (i := 0) (by omega) (by omega) hlp
  obtain ⟨hw, _⟩ := bl8 h2
  exact ⟨by rw [g_w G]; exact h1, fun h => (aq7 _).1 h hw, hw.2⟩
end
theorem cb2 {p : aa} {t : Int} {l : List ak} (G : GoodR p t l) {a b : ak} (ha : a ∈ l) (hb : b ∈ l) (h : a.ID = b.ID) : a = b := by
 obtain ⟨i, i0, i1, rfl⟩ := se.1 ha
 obtain ⟨j, j0, j1, rfl⟩ := se.1 hb
 rcases Int.lt_trichotomy i j with h2 | h2 | h2
 ·exact absurd (.inl h) (G.ds i j i0 h2 j1)
 ·rw [h2]
 ·exact absurd (.inl h.symm) (G.ds j i j0 h2 i1)
end Go.Proofs.YthdnpgpnodgicaaGreat
