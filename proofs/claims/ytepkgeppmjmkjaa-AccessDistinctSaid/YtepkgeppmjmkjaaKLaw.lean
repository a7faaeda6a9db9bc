/-
  The plain law of AccessDistinct.
-/
import Derived.Test.YtepkgeppmjmkjaaKCells
set_option linter.unusedVariables false
set_option linter.unusedSimpArgs false
set_option linter.unusedSectionVars false
set_option maxRecDepth 100000
namespace Go.Proofs.Ytepkgeppmjmkjaa
open Go Go.Pb Go.RowKit
theorem ix_get {α : Type} [Inhabited α] {l : List α} {i : Nat} (h : i < l.length) : ix l (i : Int) = l[i] := ix_nat h
theorem met_L5 (l : List Int) (n : Int) (K : Bool) (hl : (l.length : Int) = n) (hr : ∀ x ∈ l, 0 ≤ x ∧ x < n) (hd : l.Pairwise (· ≠ ·)) : ∀ (m : Nat) (i : Int) (met : List Bool), m = Int.toNat (n - i) → 0 ≤ i → (met.length : Int) = n →
    (∀ k : Int, 0 ≤ k → k < n → ix met k = true → ∃ j : Int, 0 ≤ j ∧ j < i ∧ ix l j = k) → law31_AccessDistinct_L5 l n (fun _ => K) m i met = K
  | 0, i, met, hm, h0, hlen, H => by rw [law31_AccessDistinct_L5]
  | m + 1, i, met, hm, h0, hlen, H => by
    have hi : i.toNat < l.length := by omega
    have e : ix l i = l[i.toNat] := by rw [← ix_get hi]; congr 1; omega
    have hx := hr (ix l i) (by rw [e]; exact List.getElem_mem hi)
    have hf : ix met (ix l i) = false := by
      cases hb : ix met (ix l i) with
      | false => rfl
      | true =>
        obtain ⟨j, j0, j1, j2⟩ := H (ix l i) hx.1 hx.2 hb
        have hj : j.toNat < l.length := by omega
        have e2 : ix l j = l[j.toNat] := by rw [← ix_get hj]; congr 1; omega
        have := List.pairwise_iff_getElem.1 hd j.toNat i.toNat hj hi (by omega)
        rw [← e, ← e2] at this
        exact absurd j2 this
    rw [law31_AccessDistinct_L5, if_neg (by simp [hf]; omega)]
    refine met_L5 l n K hl hr hd m (i + 1) _ (by omega) (by omega) (by simpa using hlen) fun k k0 k1 hk => ?_
    by_cases e3 : k = ix l i
    · exact ⟨i, h0, by omega, e3.symm⟩
    · have hne : (ix l i).toNat ≠ k.toNat := fun h => e3 (by omega)
      have : ix (met.set (ix l i).toNat true) k = ix met k := by
        generalize (ix l i).toNat = q at hne
        simp only [ix, List.getD_eq_getElem?_getD]
        rw [List.getElem?_set_ne hne]
      rw [this] at hk
      obtain ⟨j, j0, j1, j2⟩ := H k k0 k1 hk
      exact ⟨j, j0, by omega, j2⟩
def fl (p : api_Program) (h : Nat) : Nat := (ix p.Headers (h : Int)).Fields.length
def block (p : api_Program) (h : Nat) : List Int := (nf p + h) :: (List.range (fl p h)).map fun f : Nat => (f : Int) + nfs p h
section
variable {p : api_Program} (T : Fit p)
include T
theorem in_L2 (h : Nat) (hh : h < p.Headers.length) (K : List Int → Bool) (A : List Int) : ∀ (m : Nat) (f : Nat), m = fl p h - f → f ≤ fl p h → law31_AccessDistinct_L2 p (h : Int) K m (f : Int) (A ++ (List.range f).map fun f : Nat => (f : Int) + nfs p h) = K (A ++ (List.range (fl p h)).map fun f : Nat => (f : Int) + nfs p h)
  | 0, f, hm, h1 => by
    have : f = fl p h := by omega
    subst this
    rw [law31_AccessDistinct_L2]
  | m + 1, f, hm, h1 => by
    rw [law31_AccessDistinct_L2]
    have hb : hf p (h : Int) = (fl p h : Int) := rfl
    simp only [LET, field_eq T]
    rw [if_neg (show ¬((h : Int) = -1) by omega), if_neg (show ¬((h : Int) < 0 ∨ (p.Headers.length : Int) ≤ h ∨ (f : Int) < 0 ∨ hf p h ≤ f) by omega)]
    have := in_L2 h hh K A m (f + 1) (by omega) (by omega)
    rw [List.range_succ, List.map_append, ← List.append_assoc] at this
    exact this
theorem in_L1 (K : List Int → Bool) : ∀ (m : Nat) (i : Nat), m = p.Headers.length - i → i ≤ p.Headers.length → law31_AccessDistinct_L1 p K m (i : Int) ((List.range i).flatMap (block p)) = K ((List.range p.Headers.length).flatMap (block p))
  | 0, i, hm, h1 => by
    have : i = p.Headers.length := by omega
    subst this
    rw [law31_AccessDistinct_L1]
  | m + 1, i, hm, h1 => by
    rw [law31_AccessDistinct_L1]
    simp only [LET, valid_eq T]
    rw [if_neg (show ¬((i : Int) < 0 ∨ (p.Headers.length : Int) ≤ i) by omega)]
    have h2 := in_L2 T i (by omega) (fun z => law31_AccessDistinct_L1 p K m ((i : Int) + 1) z) ((List.range i).flatMap (block p) ++ [nf p + i]) (fl p i - 0) 0 (by omega) (by omega)
    simp only [List.range_zero, List.map_nil, List.append_nil] at h2
    have e : (Int.toNat (((ix p.Headers (i : Int)).Fields.length : Int) - 0)) = fl p i - 0 := by simp [fl]
    rw [e]
    refine Eq.trans h2 ?_
    have e2 : (List.range i).flatMap (block p) ++ [nf p + (i : Int)] ++ ((List.range (fl p i)).map fun f : Nat => (f : Int) + nfs p i) = (List.range (i + 1)).flatMap (block p) := by
      rw [List.range_succ, List.flatMap_append]
      simp [block]
    rw [e2]
    exact in_L1 K m (i + 1) (by omega) (by omega)
theorem in_L3 (K : List Int → Bool) (A : List Int) : ∀ (m : Nat) (f : Nat), m = p.Metadata.length - f → f ≤ p.Metadata.length → law31_AccessDistinct_L3 p K m (f : Int) (A ++ (List.range f).map fun f : Nat => nf p + p.Headers.length + (f : Int)) = K (A ++ (List.range p.Metadata.length).map fun f : Nat => nf p + p.Headers.length + (f : Int))
  | 0, f, hm, h1 => by
    have : f = p.Metadata.length := by omega
    subst this
    rw [law31_AccessDistinct_L3]
  | m + 1, f, hm, h1 => by
    rw [law31_AccessDistinct_L3]
    simp only [LET, field_eq T]
    rw [if_pos trivial, if_neg (show ¬((f : Int) < 0 ∨ (p.Metadata.length : Int) ≤ f) by omega)]
    have := in_L3 K A m (f + 1) (by omega) (by omega)
    rw [List.range_succ, List.map_append, ← List.append_assoc] at this
    exact this
theorem in_L4 (K : List Int → Bool) (A : List Int) : ∀ (m : Nat) (f : Nat), m = p.Registers.length - f → f ≤ p.Registers.length → law31_AccessDistinct_L4 p K m (f : Int) (A ++ (List.range f).map fun f : Nat => nf p + p.Headers.length + p.Metadata.length + (f : Int)) = K (A ++ (List.range p.Registers.length).map fun f : Nat => nf p + p.Headers.length + p.Metadata.length + (f : Int))
  | 0, f, hm, h1 => by
    have : f = p.Registers.length := by omega
    subst this
    rw [law31_AccessDistinct_L4]
  | m + 1, f, hm, h1 => by
    rw [law31_AccessDistinct_L4]
    simp only [LET, reg_eq T]
    rw [if_neg (show ¬((f : Int) < 0 ∨ (p.Registers.length : Int) ≤ f) by omega)]
    have := in_L4 K A m (f + 1) (by omega) (by omega)
    rw [List.range_succ, List.map_append, ← List.append_assoc] at this
    exact this
theorem blocks_len : ∀ n : Nat, (((List.range n).flatMap (block p)).length : Int) = n + nfs p n
  | 0 => by simp [nfs]
  | n + 1 => by
    have ih := blocks_len n
    rw [List.range_succ, List.flatMap_append]
    simp only [List.length_append, List.flatMap_cons, List.flatMap_nil, List.append_nil, block, List.length_cons, List.length_map, List.length_range, nfs, hf, fl]
    omega
theorem mem_block {h : Nat} {x : Int} (hx : x ∈ block p h) : x = nf p + h ∨ (nfs p h ≤ x ∧ x < nfs p (h + 1)) := by
  simp only [block, List.mem_cons, List.mem_map, List.mem_range] at hx
  rcases hx with rfl | ⟨f, hf', rfl⟩
  · exact .inl rfl
  · right
    simp only [nfs, hf, fl] at hf' ⊢
    omega
theorem blocks_pair : ((List.range p.Headers.length).flatMap (block p)).Pairwise (· ≠ ·) := by
  rw [List.pairwise_flatMap]
  constructor
  · intro h hh
    have hh := List.mem_range.1 hh
    simp only [block, List.pairwise_cons, List.mem_map, List.mem_range, List.pairwise_map]
    constructor
    · rintro x ⟨f, hf', rfl⟩
      have b := nfs_le (p := p) (m := h + 1) p.Headers.length (by omega)
      have c : nf p = nfs p p.Headers.length := rfl
      simp only [nfs, hf, fl] at hf' b
      omega
    · exact List.Pairwise.imp (fun hab => by omega) (List.pairwise_lt_range (n := fl p h))
  · have := List.pairwise_lt_range (n := p.Headers.length)
    rw [List.pairwise_iff_getElem] at this ⊢
    intro i j hi hj hij x hx y hy
    have hi' := hi
    have hj' := hj
    rw [List.length_range] at hi' hj'
    rw [List.getElem_range] at hx hy
    have b0 := nfs_le (p := p) (m := i + 1) j (by omega)
    have b1 := nfs_le (p := p) (m := j + 1) p.Headers.length (by omega)
    have b2 := nfs_b T i (by omega)
    have b3 := nfs_le (p := p) (m := i + 1) p.Headers.length (by omega)
    have c : nf p = nfs p p.Headers.length := rfl
    rcases mem_block T hx with rfl | hx <;> rcases mem_block T hy with rfl | hy <;> omega
end
theorem AccessDistinct_law (p : api_Program) : law31_AccessDistinct p = true := by
  unfold law31_AccessDistinct
  simp only [LET]
  cases ht : law21_TooLarge p with
  | true => rfl
  | false =>
    have T := fit_of ht
    simp only [Bool.false_eq_true, if_false]
    have s1 := in_L1 T (fun z => law31_AccessDistinct_L3 p (fun z2 => law31_AccessDistinct_L4 p (fun z3 => if (!decide ((z3.length : Int) = access_Cells p)) = true then false else law31_AccessDistinct_L5 z3 (access_Cells p) (fun _ => law31_works) (Int.toNat (access_Cells p - 0)) 0 (List.replicate (access_Cells p).toNat false)) (Int.toNat ((p.Registers.length : Int) - 0)) 0 z2) (Int.toNat ((p.Metadata.length : Int) - 0)) 0 z) (p.Headers.length - 0) 0 rfl (by omega)
    simp only [List.range_zero, List.flatMap_nil] at s1
    have e1 : Int.toNat ((p.Headers.length : Int) - 0) = p.Headers.length - 0 := by omega
    rw [e1]
    refine Eq.trans s1 ?_
    have e2 : Int.toNat ((p.Metadata.length : Int) - 0) = p.Metadata.length - 0 := by omega
    have e3 : Int.toNat ((p.Registers.length : Int) - 0) = p.Registers.length - 0 := by omega
    rw [e2, e3]
    have s2 := in_L3 T (fun z2 => law31_AccessDistinct_L4 p (fun z3 => if (!decide ((z3.length : Int) = access_Cells p)) = true then false else law31_AccessDistinct_L5 z3 (access_Cells p) (fun _ => law31_works) (Int.toNat (access_Cells p - 0)) 0 (List.replicate (access_Cells p).toNat false)) (p.Registers.length - 0) 0 z2) ((List.range p.Headers.length).flatMap (block p)) (p.Metadata.length - 0) 0 rfl (by omega)
    simp only [List.range_zero, List.map_nil, List.append_nil] at s2
    refine Eq.trans s2 ?_
    have s3 := in_L4 T (fun z3 => if (!decide ((z3.length : Int) = access_Cells p)) = true then false else law31_AccessDistinct_L5 z3 (access_Cells p) (fun _ => law31_works) (Int.toNat (access_Cells p - 0)) 0 (List.replicate (access_Cells p).toNat false)) ((List.range p.Headers.length).flatMap (block p) ++ (List.range p.Metadata.length).map fun f : Nat => nf p + p.Headers.length + (f : Int)) (p.Registers.length - 0) 0 rfl (by omega)
    simp only [List.range_zero, List.map_nil, List.append_nil] at s3
    refine Eq.trans s3 ?_
    have hlen := blocks_len T p.Headers.length
    have hc := cells_eq T
    have c : nf p = nfs p p.Headers.length := rfl
    have nb := nf_b T
    have L : (((List.range p.Headers.length).flatMap (block p) ++ ((List.range p.Metadata.length).map fun f : Nat => nf p + p.Headers.length + (f : Int)) ++ ((List.range p.Registers.length).map fun f : Nat => nf p + p.Headers.length + p.Metadata.length + (f : Int))).length : Int) = access_Cells p := by
      simp only [List.length_append, List.length_map, List.length_range]
      omega
    have inB : ∀ x ∈ (List.range p.Headers.length).flatMap (block p), 0 ≤ x ∧ x < nf p + p.Headers.length := by
      intro x hx
      obtain ⟨h, hh, hx⟩ := List.mem_flatMap.1 hx
      have hh := List.mem_range.1 hh
      have b1 := nfs_le (p := p) (m := h + 1) p.Headers.length (by omega)
      have b2 := nfs_b T h (by omega)
      rcases mem_block T hx with rfl | hx <;> omega
    have inM : ∀ x ∈ (List.range p.Metadata.length).map (fun f : Nat => nf p + p.Headers.length + (f : Int)), nf p + p.Headers.length ≤ x ∧ x < nf p + p.Headers.length + p.Metadata.length := by
      intro x hx
      obtain ⟨f, hf', rfl⟩ := List.mem_map.1 hx
      have := List.mem_range.1 hf'
      omega
    have inR : ∀ x ∈ (List.range p.Registers.length).map (fun f : Nat => nf p + p.Headers.length + p.Metadata.length + (f : Int)), nf p + p.Headers.length + p.Metadata.length ≤ x ∧ x < access_Cells p := by
      intro x hx
      obtain ⟨f, hf', rfl⟩ := List.mem_map.1 hx
      have := List.mem_range.1 hf'
      omega
    rw [if_neg (by rw [L]; simp)]
    refine met_L5 _ _ law31_works L (fun x hx => ?_) ?_ _ 0 _ rfl (by omega) (by simp; omega) (fun k k0 k1 hk => ?_)
    · rcases List.mem_append.1 hx with hx | hx
      · rcases List.mem_append.1 hx with hx | hx
        · have := inB x hx; omega
        · have := inM x hx; omega
      · have := inR x hx; omega
    · rw [List.pairwise_append, List.pairwise_append]
      refine ⟨⟨blocks_pair T, ?_, fun x hx y hy => ?_⟩, ?_, fun x hx y hy => ?_⟩
      · rw [List.pairwise_map]; exact List.Pairwise.imp (fun hab => by omega) List.pairwise_lt_range
      · have := inB x hx; have := inM y hy; omega
      · rw [List.pairwise_map]; exact List.Pairwise.imp (fun hab => by omega) List.pairwise_lt_range
      · have h2 := inR y hy
        rcases List.mem_append.1 hx with hx | hx
        · have := inB x hx; omega
        · have := inM x hx; omega
    · exfalso
      simp only [ix, List.getD_eq_getElem?_getD, List.getElem?_replicate] at hk
      split at hk <;> simp at hk
end Go.Proofs.Ytepkgeppmjmkjaa
