import Derived.Test.YtmonnlkagniolaaGreatKCkFe
import Derived.Test.YtmonnlkagniolaaGreatKFcFrBd
set_option linter.unusedVariables false
set_option linter.unusedSimpArgs false
set_option maxRecDepth 100000
namespace Go.Proofs.YtmonnlkagniolaaGreat
open Go Go.Pb Go.RowKit
def st (z : bq) : am := { Fields := insF z.fields [], Headers := insI z.headers [], Registers := insI z.registers [] }
theorem af8 (a b l : List aa) : insF (a ++ b) l = insF b (insF a l) := by unfold insF; rw [List.foldl_append]
theorem mq (a b l : List Int) : insI (a ++ b) l = insI b (insI a l) := by unfold insI; rw [List.foldl_append]
theorem br2 (l : List aa) : en l = l.mergeSort fun x y => !ip y x := by
 unfold en
 congr 1
 funext x y
 rw [xu]
 have := at4 y x
 unfold Go.Proofs.ltOf at this
 rw [this]
theorem sw (z : bq) : cm z = ((st z).Fields, (st z).Headers, (st z).Registers) := by
 unfold cm
 simp only [LET]
 show (cpt (en z.fields), cpt (di z.headers), cpt (di z.registers)) = _
 rw [br2, yl, yl, sf ar2, sf ab2, sf ab2]
 rfl
theorem aw4 (z : bq) (n : List ae) : me (st z) n = st (dg z n) := by
 rw [ad7]
 unfold dg st
 simp only [LET, af8, mq]
theorem bl5 (f : List aa) (h r : List Int) (x : Int) : ({ Fields := (st ⟨f, h, r⟩).Fields, Headers := gb (st ⟨f, h, r⟩).Headers x, Registers := (st ⟨f, h, r⟩).Registers } : am) = st ⟨f, h ++ [x], r⟩ := by
 simp only [st, mq, AddInt_ins]
 rfl
theorem ci1 {c : db} {s : aq} (h : dw c s = 0) : 1 ≤ s.Kind ∧ s.Kind ≤ 5 := by
 by_cases k1 : s.Kind = 1
 ·omega
 by_cases k2 : s.Kind = 2
 ·omega
 by_cases k3 : s.Kind = 3
 ·omega
 by_cases k4 : s.Kind = 4
 ·omega
 by_cases k5 : s.Kind = 5
 ·omega
 unfold dw at h
 simp [LET, k1, k2, k3, k4, k5] at h
theorem by7 (p : ab) (i : Int) : ∀ (m : Nat) (j : Int) (z : bq), jw p i (fun a => (a.Fields, a.Headers, a.Registers)) m j (st z) = ft (ix p.Actions i).Body (fun z => ((cm z).1, (cm z).2.1, (cm z).2.2)) m j z
 | 0, j, z => by
   rw [jw, ft, sw]
 | m + 1, j, ⟨zf, zh, zr⟩ => by
   have ih := fun z => by7 p i m (j + 1) z
   rw [jw, ft]
   simp only [LET]
   generalize ix (ix p.Actions i).Body j = s
   by_cases k1 : s.Kind = 1
   ·simp only [k1, Int.reduceEq, decide_true, decide_false, Bool.or_false, Bool.false_or, Bool.true_or, Bool.or_true, Bool.true_and, if_true, if_false, Bool.false_eq_true, Bool.or_self, aw4]
    generalize dg ⟨zf, zh, zr⟩ s.Value = w
    obtain ⟨wf, wh, wr⟩ := w
    split
    ·rw [← ih]; congr 1; exact bl5 _ _ _ _
    ·exact ih _
   by_cases k2 : s.Kind = 2
   ·simp only [k2, Int.reduceEq, decide_true, decide_false, Bool.or_false, Bool.false_or, Bool.true_or, Bool.or_true, Bool.true_and, Bool.false_and, if_true, if_false, Bool.false_eq_true, Bool.or_self]
    rw [← ih]; congr 1; exact bl5 _ _ _ _
   by_cases k4 : s.Kind = 4
   ·simp only [k4, Int.reduceEq, decide_true, decide_false, Bool.or_false, Bool.false_or, Bool.true_or, Bool.or_true, Bool.true_and, Bool.false_and, if_true, if_false, Bool.false_eq_true, Bool.or_self, aw4]
    generalize dg ⟨zf, zh, zr⟩ s.Index = w
    obtain ⟨wf, wh, wr⟩ := w
    split
    ·rw [← ih]; congr 1; simp only [st, mq, AddInt_ins]; rfl
    ·rw [← ih]; congr 1; simp only [st, mq, AddInt_ins]; rfl
   by_cases k5 : s.Kind = 5
   ·simp only [k5, Int.reduceEq, decide_true, decide_false, Bool.or_false, Bool.false_or, Bool.true_or, Bool.or_true, Bool.true_and, Bool.false_and, if_true, if_false, Bool.false_eq_true, Bool.or_self, aw4]
    exact ih _
   simp only [k1, k2, k4, k5, decide_false, Bool.or_false, Bool.false_and, if_false, Bool.false_eq_true, Bool.or_self]
   exact ih _
theorem aj2 (p : ab) (i : Int) : mw p i = gm p i := by
 unfold mw gm iz
 simp only [LET, yx]
 split
 ·simp only [List.length_nil]
  show _ = ft [] _ 0 0 _
  rw [ft, sw]
  rfl
 ·exact by7 p i _ _ ⟨[], [], []⟩
theorem ax5 {p : ab} {i : Int} {y : List aa × List Int × List Int} (h : mw p i = y) : QL y := wu (by rw [← aj2]; exact h)
theorem bu6 (p : ab) (i j : Int) (f : List aa) (h r : List Int) (K1 : am → List aa × List Int × List Int) (K2 : List Int → List Int → List aa → List aa × List Int × List Int) (hK : ∀ f, K1 ⟨insF f [], insI h [], insI r []⟩ = K2 r (h ++ [(ix (ix p.Actions i).Body j).Header]) f) : ∀ (m : Nat) (x : Int) (f : List aa), kd p i j K1 m x ⟨insF f [], insI h [], insI r []⟩ = gx (ix p.Actions i).Body j K2 m x r (h ++ [(ix (ix p.Actions i).Body j).Header]) f
 | 0, x, f => by rw [kd, gx]; exact hK f
 | m + 1, x, f' => by
   rw [kd, gx]
   simp only [LET]
   rw [← bu6 p i j f h r K1 K2 hK m (x + 1) _]
   congr 1
   simp only [af8, AddField_ins]
   rfl
theorem bn4 (p : ab) (i : Int) (hk : ∀ k : Int, 0 ≤ k → k < (ix p.Actions i).Body.length → 1 ≤ (ix (ix p.Actions i).Body k).Kind ∧ (ix (ix p.Actions i).Body k).Kind ≤ 5) : ∀ (m : Nat) (j : Int) (f : List aa) (h r : List Int), m = Int.toNat (((ix p.Actions i).Body.length : Int) - j) → 0 ≤ j → gu p i (fun a => (a.Fields, a.Headers, a.Registers)) m j ⟨insF f [], insI h [], insI r []⟩ = dt p (ix p.Actions i).Body (fun r h f => ((cm ⟨f, h, r⟩).1, (cm ⟨f, h, r⟩).2.1, (cm ⟨f, h, r⟩).2.2)) m j r h f
 | 0, j, f, h, r, hm, h0 => by
   rw [gu, dt, sw]
   rfl
 | m + 1, j, f, h, r, hm, h0 => by
   have ih := fun f h r => bn4 p i hk m (j + 1) f h r (by omega) (by omega)
   have kk := hk j h0 (by omega)
   rw [gu, dt]
   simp only [LET]
   have eF : ∀ x, jf (insF f []) x = insF (f ++ [x]) [] := fun x => by rw [af8, AddField_ins]; rfl
   have eR : ∀ x, gb (insI r []) x = insI (r ++ [x]) [] := fun x => by rw [mq, AddInt_ins]; rfl
   have eH : ∀ x, gb (insI h []) x = insI (h ++ [x]) [] := fun x => by rw [mq, AddInt_ins]; rfl
   by_cases k1 : (ix (ix p.Actions i).Body j).Kind = 1
   ·simp only [k1, decide_true, if_true, eF]; exact ih _ _ _
   by_cases k4 : (ix (ix p.Actions i).Body j).Kind = 4
   ·simp only [k4, Int.reduceEq, decide_true, decide_false, if_true, if_false, Bool.false_eq_true, eF]; exact ih _ _ _
   by_cases k2 : (ix (ix p.Actions i).Body j).Kind = 2 ∨ (ix (ix p.Actions i).Body j).Kind = 3
   ·have e := bu6 p i j f h r (fun a => gu p i (fun a => (a.Fields, a.Headers, a.Registers)) m (j + 1) ⟨a.Fields, gb a.Headers (ix (ix p.Actions i).Body j).Header, a.Registers⟩) (fun a b c => dt p (ix p.Actions i).Body (fun r h f => ((cm ⟨f, h, r⟩).1, (cm ⟨f, h, r⟩).2.1, (cm ⟨f, h, r⟩).2.2)) m (j + 1) a b c) (fun f' => by
     show gu p i _ m (j + 1) ⟨insF f' [], gb (insI h []) _, insI r []⟩ = _
     rw [eH]; exact ih _ _ _) (Int.toNat ((((ix p.Headers (ix (ix p.Actions i).Body j).Header).Fields).length : Int) - 0)) 0 f
    rcases k2 with k | k
    ·simp only [k, Int.reduceEq, decide_true, decide_false, if_true, if_false, Bool.false_eq_true]; exact e
    ·simp only [k, Int.reduceEq, decide_true, decide_false, if_true, if_false, Bool.false_eq_true]; exact e
   have k5 : (ix (ix p.Actions i).Body j).Kind = 5 := by omega
   simp only [k5, Int.reduceEq, decide_true, decide_false, if_true, if_false, Bool.false_eq_true, eR]
   exact ih _ _ _
theorem ad6 (p : ab) (i : Int) : ly p i = fu p i := by
 unfold ly fu iz
 simp only [LET, yx]
 split
 ·simp only [List.length_nil]
  show _ = dt p [] _ 0 0 _ _ _
  rw [dt, sw]
  rfl
 ·rename_i hc
  simp at hc
  refine bn4 p i ?_ _ 0 [] [] [] rfl (Int.le_refl _)
  intro k k0 k1
  unfold lb at hc
  split at hc
  ·simp at hc
  simp only [LET] at hc
  split at hc
  ·rename_i h3
   simp at h3
   exact absurd hc h3
  ·exact ci1 (bm8 p i _ 0 rfl hc k k0 k1)
theorem aq0 {p : ab} (hs : SmH p) {i : Int} {y : List aa × List Int × List Int} (h : ly p i = y) : QL y := uh hs (by rw [← ad6]; exact h)
def hf (p : ab) (j : Int) : Int := ((ix p.Headers j).Fields.length : Int)
def nfs (p : ab) : Nat → Int
 | 0 => 0
 | n + 1 => nfs p n + hf p n
structure Fit (p : ab) : Prop where
 hh : p.Headers.length ≤ 16
 hm : p.Metadata.length ≤ 20
 hr : p.Registers.length ≤ 8
 hf : ∀ j : Int, 0 ≤ j → j < p.Headers.length → hf p j ≤ 20
theorem cm5 (p : ab) (j : Int) : 0 ≤ hf p j := Int.natCast_nonneg _
theorem cv8 {p : ab} (h : mh p = false) : Fit p := by
 have k := tl h rfl
 exact ⟨k.1.1, k.1.2.1, k.1.2.2, fun j h0 h1 => by have := k.2.1 j h0 h1; simp only [hf]; omega⟩
section
variable {p : ab} (T : Fit p)
include T
theorem ai5 : ∀ n : Nat, n ≤ p.Headers.length → 0 ≤ nfs p n ∧ nfs p n ≤ 20 * n
 | 0, _ => by simp [nfs]
 | n + 1, h => by
   have ih := ai5 n (by omega)
   have h1 := T.hf n (by omega) (by omega)
   have h2 := cm5 p n
   simp only [nfs]
   omega
omit T in
omit T in
def nf (p : ab) : Int := nfs p p.Headers.length
theorem nf_b : 0 ≤ nf p ∧ nf p ≤ 320 := by
 have := ai5 T p.Headers.length (Nat.le_refl _)
 have h := T.hh
 simp only [nf]
 omega
theorem ah5 (K : List Int → List Int) (a b c : Int) : ∀ (m : Nat) (i : Int), m = Int.toNat ((p.Headers.length : Int) - i) → 0 ≤ i → i ≤ p.Headers.length → js p K m i [nfs p i.toNat, a, b, c] = K [nf p, a, b, c]
 | 0, i, hm, h0, h1 => by
   have : i.toNat = p.Headers.length := by omega
   rw [js, this]; rfl
 | m + 1, i, hm, h0, h1 => by
   rw [js]
   have h2 := ai5 T i.toNat (by omega)
   have h3 := T.hf i h0 (by omega)
   have h4 := cm5 p i
   have hh := T.hh
   have e : ([nfs p i.toNat, a, b, c] : List Int).set (0 : Int).toNat (wr (ix ([nfs p i.toNat, a, b, c] : List Int) 0 + ((ix p.Headers i).Fields.length : Int))) = [nfs p (i + 1).toNat, a, b, c] := by
    have e1 : (i + 1).toNat = i.toNat + 1 := by omega
    have e2 : ix ([nfs p i.toNat, a, b, c] : List Int) 0 = nfs p i.toNat := rfl
    rw [e1, e2]
    show wr (nfs p i.toNat + hf p i) :: _ = _
    rw [cv (by omega) (by omega)]
    simp only [nfs]
    rw [show ((i.toNat : Nat) : Int) = i by omega]
   rw [e]
   exact ah5 K a b c m (i + 1) (by omega) (by omega) (by omega)
theorem ak1 : ky p = [nf p, (p.Headers.length : Int), (p.Metadata.length : Int), (p.Registers.length : Int)] := by
 unfold ky
 exact ah5 T _ _ _ _ _ 0 rfl (by omega) (by omega)
theorem yo (k : Int) (hk : 0 ≤ k ∧ k ≤ 4) : mr p k = if k = 0 then 0 else if k = 1 then nf p else if k = 2 then nf p + p.Headers.length else if k = 3 then nf p + p.Headers.length + p.Metadata.length else nf p + p.Headers.length + p.Metadata.length + p.Registers.length := by
 have hb := nf_b T
 have h1 := T.hh
 have h2 := T.hm
 have h3 := T.hr
 have key : ∀ a b c d : Int, (0 ≤ a ∧ a ≤ 320) → (0 ≤ b ∧ b ≤ 16) → (0 ≤ c ∧ c ≤ 20) → (0 ≤ d ∧ d ≤ 8) → km k [a, b, c, d] (fun x => x) 4 0 0 = if k = 0 then 0 else if k = 1 then a else if k = 2 then a + b else if k = 3 then a + b + c else a + b + c + d := by
  intro a b c d ha hb hc hd
  have hx : ix ([a, b, c, d] : List Int) 0 = a ∧ ix ([a, b, c, d] : List Int) 1 = b ∧ ix ([a, b, c, d] : List Int) 2 = c ∧ ix ([a, b, c, d] : List Int) 3 = d := ⟨rfl, rfl, rfl, rfl⟩
  have w1 : wr (0 + a) = a := by rw [cv (by omega) (by omega)]; omega
  have w2 : wr (a + b) = a + b := cv (by omega) (by omega)
  have w3 : wr (a + b + c) = a + b + c := cv (by omega) (by omega)
  have w4 : wr (a + b + c + d) = a + b + c + d := cv (by omega) (by omega)
  have : k = 0 ∨ k = 1 ∨ k = 2 ∨ k = 3 ∨ k = 4 := by omega
  rcases this with rfl | rfl | rfl | rfl | rfl <;> simp [km, hx.1, hx.2.1, hx.2.2.1, hx.2.2.2, w1, w2, w3, w4, cv (n := a) (by omega) (by omega)]
 unfold mr
 simp only [LET, ak1 T]
 exact key _ _ _ _ hb (by omega) (by omega) (by omega)
theorem an8 (k i : Int) (hk : 0 ≤ k ∧ k ≤ 3) : oh p k i = if i < 0 ∨ ix [nf p, (p.Headers.length : Int), (p.Metadata.length : Int), (p.Registers.length : Int)] k ≤ i then -1 else mr p k + i := by
 unfold oh
 simp only [LET, ak1 T, Bool.or_eq_true, decide_eq_true_eq]
 split
 ·rfl
 ·rename_i hc
  simp only [not_or] at hc
  have hb := nf_b T
  have h1 := T.hh
  have h2 := T.hm
  have h3 := T.hr
  have hx : ix [nf p, (p.Headers.length : Int), (p.Metadata.length : Int), (p.Registers.length : Int)] k ≤ 320 := by
   have : k = 0 ∨ k = 1 ∨ k = 2 ∨ k = 3 := by omega
   rcases this with rfl | rfl | rfl | rfl
   ·show nf p ≤ 320; omega
   ·show (p.Headers.length : Int) ≤ 320; omega
   ·show (p.Metadata.length : Int) ≤ 320; omega
   ·show (p.Registers.length : Int) ≤ 320; omega
  have hf : 0 ≤ mr p k ∧ mr p k ≤ 400 := by
   rw [yo T k (by omega)]
   split
   ·omega
   ·split
    ·omega
    ·split
     ·omega
     ·split <;> omega
  exact cv (by omega) (by omega)
theorem by4 (h : Int) : iy p h = if h < 0 ∨ (p.Headers.length : Int) ≤ h then -1 else nf p + h := by
 unfold iy
 simp only [LET, an8 T 1 h (by omega), yo T 1 (by omega)]
 rfl
theorem cv1 (r : Int) : gn p r = if r < 0 ∨ (p.Registers.length : Int) ≤ r then -1 else nf p + p.Headers.length + p.Metadata.length + r := by
 unfold gn
 simp only [LET, an8 T 3 r (by omega), yo T 3 (by omega)]
 rfl
omit T in
theorem cx7 {α : Type} [Inhabited α] (l : List α) (b i : Int) (h0 : 0 ≤ i) (h1 : i < b) : ix (sub l 0 b) i = ix l i := by
 simp only [ix, sub, Int.toNat_zero, List.drop_zero, Nat.sub_zero, List.getD_eq_getElem?_getD]
 rw [List.getElem?_take_of_lt (by omega)]
theorem aq8 (r : aa) (K : Int → Int) (h0 : 0 ≤ r.Header) (h1 : r.Header < p.Headers.length) (f0 : 0 ≤ r.Field) (f1 : r.Field < hf p r.Header) : ∀ (m : Nat) (i : Int), m = Int.toNat (r.Header - i) → 0 ≤ i → i ≤ r.Header → im p r K m (r.Field + nfs p i.toNat) i = K (r.Field + nfs p r.Header.toNat)
 | 0, i, hm, h2, h3 => by
   have : i = r.Header := by omega
   subst this
   rw [im]
 | m + 1, i, hm, h2, h3 => by
   rw [im, cx7 p.Headers r.Header i h2 (by omega)]
   have b := ai5 T i.toNat (by omega)
   have h4 := T.hf i h2 (by omega)
   have h5 := cm5 p i
   have h6 := T.hf r.Header h0 h1
   have hh := T.hh
   have e : wr (r.Field + nfs p i.toNat + ((ix p.Headers i).Fields.length : Int)) = r.Field + nfs p (i + 1).toNat := by
    have e1 : (i + 1).toNat = i.toNat + 1 := by omega
    show wr (r.Field + nfs p i.toNat + hf p i) = _
    rw [cv (by omega) (by omega), e1]
    simp only [nfs]
    rw [show ((i.toNat : Nat) : Int) = i by omega]
    omega
   rw [e]
   exact aq8 r K h0 h1 f0 f1 m (i + 1) (by omega) (by omega) (by omega)
theorem bo8 (r : aa) : il p r = if r.Header = -1 then (if r.Field < 0 ∨ (p.Metadata.length : Int) ≤ r.Field then -1 else nf p + p.Headers.length + r.Field) else if r.Header < 0 ∨ (p.Headers.length : Int) ≤ r.Header ∨ r.Field < 0 ∨ hf p r.Header ≤ r.Field then -1 else r.Field + nfs p r.Header.toNat := by
 unfold il
 simp only [LET, decide_eq_true_eq, Bool.or_eq_true, an8 T 2 r.Field (by omega), yo T 2 (by omega)]
 split
 ·rfl
 ·split
  ·rename_i h
   rw [if_pos]
   simp only [hf]
   rcases h with ((h | h) | h) | h <;> omega
  ·rename_i h
   have h' : ¬(r.Header < 0 ∨ (p.Headers.length : Int) ≤ r.Header ∨ r.Field < 0 ∨ hf p r.Header ≤ r.Field) := by
    simp only [hf]; omega
   rw [if_neg h']
   simp only [not_or, Int.not_lt, Int.not_le] at h'
   have hl := uy (l := p.Headers) (a := 0) (b := r.Header) (by omega) (by omega) (by omega)
   have := aq8 T r (fun x => x) (by omega) (by omega) (by omega) (by omega) (Int.toNat (((sub p.Headers 0 r.Header).length : Int) - 0)) 0 (by omega) (by omega) (by omega)
   simpa [nfs] using this
end
section
variable {p : ab} (T : Fit p)
include T
theorem aq1 (K : Int → Int) (h : Int) (h1 : h ≤ p.Headers.length) : ∀ (m : Nat) (i : Int), m = Int.toNat (h - i) → 0 ≤ i → i ≤ h → ka p K m (nfs p i.toNat) i = K (nfs p h.toNat)
 | 0, i, hm, h2, h3 => by
   have : i = h := by omega
   subst this
   rw [ka]
 | m + 1, i, hm, h2, h3 => by
   rw [ka]
   have b := ai5 T i.toNat (by omega)
   have h4 := T.hf i h2 (by omega)
   have h5 := cm5 p i
   have hh := T.hh
   have e : wr (nfs p i.toNat + ((ix p.Headers i).Fields.length : Int)) = nfs p (i + 1).toNat := by
    have e1 : (i + 1).toNat = i.toNat + 1 := by omega
    show wr (nfs p i.toNat + hf p i) = _
    rw [cv (by omega) (by omega), e1]
    simp only [nfs]
    rw [show ((i.toNat : Nat) : Int) = i by omega]
   rw [e]
   exact aq1 K h h1 m (i + 1) (by omega) (by omega) (by omega)
theorem ar5 (h : Int) (h0 : 0 ≤ h) (h1 : h ≤ p.Headers.length) : lx p h = nfs p h.toNat := by
 unfold lx
 have := aq1 T (fun x => x) h h1 (Int.toNat (h - 0)) 0 rfl (by omega) h0
 simpa [nfs] using this
theorem ww : lx p (p.Headers.length : Int) = nf p := by
 rw [ar5 T _ (by omega) (by omega)]
 rfl
theorem bi0 (h : Int) : gv p h = if h < 0 ∨ (p.Headers.length : Int) ≤ h then -1 else nf p + h := by
 unfold gv
 simp only [LET, ww T, Bool.or_eq_true, decide_eq_true_eq]
 have := nf_b T
 have := T.hh
 split
 ·rfl
 ·exact cv (by omega) (by omega)
theorem ci8 (r : Int) : gi p r = if r < 0 ∨ (p.Registers.length : Int) ≤ r then -1 else nf p + p.Headers.length + p.Metadata.length + r := by
 unfold gi
 simp only [LET, ww T, Bool.or_eq_true, decide_eq_true_eq]
 have := nf_b T
 have := T.hh
 have := T.hm
 have := T.hr
 split
 ·rfl
 ·rw [cv (n := nf p + p.Headers.length) (by omega) (by omega), cv (n := nf p + p.Headers.length + p.Metadata.length) (by omega) (by omega)]
  exact cv (by omega) (by omega)
theorem bh6 (r : aa) : er p r = il p r := by
 rw [bo8 T]
 unfold er
 simp only [LET, ww T, Bool.or_eq_true, Bool.and_eq_true, decide_eq_true_eq]
 have b := nf_b T
 have := T.hh
 have := T.hm
 by_cases hm : r.Header = -1
 ·rw [if_pos hm]
  by_cases hf : 0 ≤ r.Field ∧ r.Field < (p.Metadata.length : Int)
  ·rw [if_pos ⟨⟨hm, hf.1⟩, hf.2⟩, if_neg (by omega), cv (n := nf p + p.Headers.length) (by omega) (by omega)]
   exact cv (by omega) (by omega)
  ·rw [if_neg (fun h => hf ⟨h.1.2, h.2⟩), if_pos (.inl (.inl (.inl (by omega)))), if_pos (by omega)]
 ·rw [if_neg (fun h => hm h.1.1), if_neg hm]
  by_cases hc : r.Header < 0 ∨ (p.Headers.length : Int) ≤ r.Header ∨ r.Field < 0 ∨ hf p r.Header ≤ r.Field
  ·rw [if_pos hc, if_pos (by simp only [hf] at hc; omega)]
  ·rw [if_neg hc, if_neg (by simp only [hf] at hc; omega)]
   simp only [not_or, Int.not_lt, Int.not_le] at hc
   rw [ar5 T _ (by omega) (by omega)]
   have b2 := ai5 T r.Header.toNat (by omega)
   have b3 := T.hf r.Header (by omega) (by omega)
   rw [cv (by omega) (by omega)]
   omega
-- the width of a cell
omit T in
end
theorem ao9 (x : Int) (t a : List Int) : insI (nn (x :: t)) a = insI (nn t) (if x < 0 then a else insS (fun a b => decide (a < b)) x a) := by
 unfold nn
 by_cases h : x < 0
 ·rw [List.filter_cons_of_neg (by simp; omega), if_pos h]
 ·rw [List.filter_cons_of_pos (by simp; omega), if_neg h]
  rfl
theorem bs2 (x : Int) (a : List Int) : (if x < 0 then a else insS (fun a b => decide (a < b)) x a).length ≤ a.length + 1 := by
 split
 ·omega
 ·exact rh _ _ _
theorem cr3 (p : ab) (l : List aa) (K : List Int → List Int) : ∀ (m : Nat) (i : Int) (a : List Int), m = Int.toNat ((l.length : Int) - i) → 0 ≤ i → a.length + m ≤ 4611686018427387904 → jz p l K m a i = K (insI (nn ((l.drop i.toNat).map (er p))) a)
 | 0, i, a, hm, h0, hb => by
   rw [jz, List.drop_eq_nil_of_le (by omega)]
   rfl
 | m + 1, i, a, hm, h0, hb => by
   have hl := bs2 (er p (ix l i)) a
   rw [jz]
   simp only [LET]
   rw [si _ _ (by omega), cr3 p l K m (i + 1) _ (by omega) (by omega) (by omega), dropix (c := l) (i := i) h0 (by omega), List.map_cons, ao9]
theorem cq6 (p : ab) (l : List Int) (K : List Int → List Int) : ∀ (m : Nat) (i : Int) (a : List Int), m = Int.toNat ((l.length : Int) - i) → 0 ≤ i → a.length + m ≤ 4611686018427387904 → ko p l K m a i = K (insI (nn ((l.drop i.toNat).map (gv p))) a)
 | 0, i, a, hm, h0, hb => by
   rw [ko, List.drop_eq_nil_of_le (by omega)]
   rfl
 | m + 1, i, a, hm, h0, hb => by
   have hl := bs2 (gv p (ix l i)) a
   rw [ko]
   simp only [LET]
   rw [si _ _ (by omega), cq6 p l K m (i + 1) _ (by omega) (by omega) (by omega), dropix (c := l) (i := i) h0 (by omega), List.map_cons, ao9]
theorem cq5 (p : ab) (l : List Int) (K : List Int → List Int) : ∀ (m : Nat) (i : Int) (a : List Int), m = Int.toNat ((l.length : Int) - i) → 0 ≤ i → a.length + m ≤ 4611686018427387904 → kh p l K m a i = K (insI (nn ((l.drop i.toNat).map (gi p))) a)
 | 0, i, a, hm, h0, hb => by
   rw [kh, List.drop_eq_nil_of_le (by omega)]
   rfl
 | m + 1, i, a, hm, h0, hb => by
   have hl := bs2 (gi p (ix l i)) a
   rw [kh]
   simp only [LET]
   rw [si _ _ (by omega), cq5 p l K m (i + 1) _ (by omega) (by omega) (by omega), dropix (c := l) (i := i) h0 (by omega), List.map_cons, ao9]
def gl (p : ab) (f : List aa) (h r : List Int) : List Int := nn (f.map (er p)) ++ (nn (h.map (gv p)) ++ nn (r.map (gi p)))
theorem cy8 (p : ab) (f : List aa) (h r : List Int) : (gl p f h r).length ≤ f.length + h.length + r.length := by
 unfold gl
 have h1 := sy (f.map (er p))
 have h2 := sy (h.map (gv p))
 have h3 := sy (r.map (gi p))
 simp only [List.length_append, List.length_map] at *
 omega
theorem ah7 (p : ab) (l : List Int) (f : List aa) (h r : List Int) (hb : l.length + (f.length + h.length + r.length) ≤ 4000000) : lv p l f h r = insI (gl p f h r) l := by
 unfold lv
 have h1 := sy (f.map (er p))
 have h2 := sy (h.map (gv p))
 rw [List.length_map] at h1 h2
 have b1 := qp (nn (f.map (er p))) l
 have b2 := qp (nn (h.map (gv p))) (insI (nn (f.map (er p))) l)
 rw [cr3 _ _ _ _ _ _ rfl (Int.le_refl _) (by omega)]
 simp only [Int.toNat_zero, List.drop_zero]
 rw [cq6 _ _ _ _ _ _ rfl (Int.le_refl _) (by omega)]
 simp only [Int.toNat_zero, List.drop_zero]
 rw [cq5 _ _ _ _ _ _ rfl (Int.le_refl _) (by omega)]
 simp only [Int.toNat_zero, List.drop_zero]
 unfold gl
 rw [mq, mq]
theorem wm {p : ab} {l y : List Int} {f : List aa} {h r : List Int} (e : lv p l f h r = y) (hb : l.length + (f.length + h.length + r.length) ≤ 4000000) : y.length ≤ l.length + (f.length + h.length + r.length) := by
 rw [ah7 p l f h r hb] at e
 subst e
 have h1 := qp (gl p f h r) l
 have h2 := cy8 p f h r
 omega
theorem wa (c : ai) : dv c = insI c.cells [] := by
 unfold dv
 simp only [LET]
 show cpt (di c.cells) = _
 rw [yl, sf ab2]
 rfl
section
variable {p : ab} (T : Fit p)
include T
theorem bu2 (f : List aa) (h r : List Int) : gl p f h r = cls p f h r := by
 have e1 : er p = il p := by funext x; exact bh6 T x
 have e2 : gv p = iy p := by funext x; rw [bi0 T, by4 T]
 have e3 : gi p = gn p := by funext x; rw [ci8 T, cv1 T]
 unfold gl cls
 rw [e1, e2, e3]
theorem xb (l : List Int) (f : List aa) (h r : List Int) (hb : l.length + (f.length + h.length + r.length) ≤ 4000000) : lv p l f h r = insI (cls p f h r) l := by
 rw [ah7 p l f h r hb, bu2 T]
theorem ay5 (l : List Int) (x : aa) (hb : l.length ≤ 4000000) : kx l (er p x) = insI (cls p [x] [] []) l := by
 rw [si _ _ (by omega), ← bu2 T]
 show _ = insI (nn [er p x] ++ (nn [] ++ nn [])) l
 rw [show nn [] ++ nn [] = ([] : List Int) from rfl, List.append_nil, ao9]
 rfl
omit T in
theorem bb3 (cs : List Int) (f : List aa) (h r : List Int) : ej ⟨p, cs⟩ f h r = ⟨p, cs ++ cls p f h r⟩ := bq2 _ _ _ _
theorem bl6 (u : ct) (t : bh) (ht : ix p.Tables u.Table = t) (K : List Int → List Int) (K' : ai → List Int) (B : Nat) (hB : B ≤ 4000000) (hK : ∀ cs, (insI cs []).length ≤ B → K (insI cs []) = K' ⟨p, cs⟩) : ∀ (m : Nat) (i : Int) (cs : List Int), (insI cs []).length + m ≤ B → ld p u K m (insI cs []) i = kj (t, true) K' m i ⟨p, cs⟩
 | 0, i, cs, hb => by rw [ld, kj]; exact hK cs (by omega)
 | m + 1, i, cs, hb => by
   rw [ld, kj]
   simp only [LET]
   rw [bb3, ht, ay5 T _ _ (by omega), ← mq]
   refine bl6 u t ht K K' B hB hK m (i + 1) _ ?_
   have h1 := qp (cls p [(ix t.Keys i).Field] [] []) (insI cs [])
   have h2 := ab4 p [(ix t.Keys i).Field] [] []
   rw [mq]
   simp only [List.length_cons, List.length_nil] at h2
   omega
theorem bs3 (u : ct) (t : bh) (ht : ix p.Tables u.Table = t) (K : List Int → List Int) (K' : ai → List Int) (B : Nat) (hB : B ≤ 4000000) (hK : ∀ cs, (insI cs []).length ≤ B → K (insI cs []) = K' ⟨p, cs⟩) : ∀ (m : Nat) (i : Int) (cs : List Int), (insI cs []).length + 39000 * m ≤ B → jx p u K m (insI cs []) i = jg p (t, true) K' m i ⟨p, cs⟩
 | 0, i, cs, hb => by rw [jx, jg]; exact hK cs (by omega)
 | m + 1, i, cs, hb => by
   have q := wu (p := p) (i := ix t.Actions i) rfl
   unfold QL at q
   rw [jx, jg]
   simp only [LET]
   rw [bb3, ht, aj2, xb T _ _ _ _ (by omega), ← mq]
   refine bs3 u t ht K K' B hB hK m (i + 1) _ ?_
   have h1 := qp (cls p (gm p (ix t.Actions i)).1 (gm p (ix t.Actions i)).2.1 (gm p (ix t.Actions i)).2.2) (insI cs [])
   have h2 := ab4 p (gm p (ix t.Actions i)).1 (gm p (ix t.Actions i)).2.1 (gm p (ix t.Actions i)).2.2
   rw [mq]
   omega
theorem bl9 (hs : SmH p) (u : ct) (t : bh) (ht : ix p.Tables u.Table = t) (K : List Int → List Int) (K' : ai → List Int) (B : Nat) (hB : B ≤ 4000000) (hK : ∀ cs, (insI cs []).length ≤ B → K (insI cs []) = K' ⟨p, cs⟩) : ∀ (m : Nat) (i : Int) (cs : List Int), (insI cs []).length + 39000 * m ≤ B → kn p u K m (insI cs []) i = jo p (t, true) K' m i ⟨p, cs⟩
 | 0, i, cs, hb => by rw [kn, jo]; exact hK cs (by omega)
 | m + 1, i, cs, hb => by
   have q := uh hs (i := ix t.Actions i) rfl
   unfold QL at q
   rw [kn, jo]
   simp only [LET]
   rw [bb3, ht, ad6, xb T _ _ _ _ (by omega), ← mq]
   refine bl9 hs u t ht K K' B hB hK m (i + 1) _ ?_
   have h1 := qp (cls p (fu p (ix t.Actions i)).1 (fu p (ix t.Actions i)).2.1 (fu p (ix t.Actions i)).2.2) (insI cs [])
   have h2 := ab4 p (fu p (ix t.Actions i)).1 (fu p (ix t.Actions i)).2.1 (fu p (ix t.Actions i)).2.2
   rw [mq]
   omega
theorem bt8 (hA : AB p) (u : ct) (hc : u.Cond.length ≤ 60) : qk p u = pw p u := by
 unfold qk pw
 simp only [LET]
 split
 ·rw [bb3, wa, ← zg, ← vm]
  have h1 := pz u.Cond
  have h2 := po u.Cond
  rw [xb T _ _ _ _ (by simp only [List.length_nil]; omega)]
  rfl
 ·rename_i hn
  unfold fy
  split
  ·rfl
  ·rename_i hd
   simp at hd
   have b := hA.2 u.Table (by omega) (by omega)
   rw [if_neg (by simp)]
   have e := bl6 T u (ix p.Tables u.Table) rfl (fun a => jx p u (fun a => a) (Int.toNat ((((ix p.Tables u.Table).Actions).length : Int) - 0)) a 0) (fun c => jg p (ix p.Tables u.Table, true) (fun c => dv ⟨c.p, c.cells⟩) (Int.toNat ((((ix p.Tables u.Table).Actions).length : Int) - 0)) 0 ⟨c.p, c.cells⟩) 24 (by omega) (fun cs hcs => bs3 T u (ix p.Tables u.Table) rfl (fun a => a) (fun c => dv ⟨c.p, c.cells⟩) 4000000 (by omega) (fun cs' _ => (wa ⟨p, cs'⟩).symm) _ 0 cs (by omega)) (Int.toNat ((((ix p.Tables u.Table).Keys).length : Int) - 0)) 0 [] (by show 0 + _ ≤ 24; omega)
   exact e
theorem bj2 (hA : AB p) (u : ct) : mo p u = md p u := by
 unfold mo md
 simp only [LET]
 unfold fy
 split
 ·rfl
 ·rename_i hd
  simp at hd
  have b := hA.2 u.Table (by omega) (by omega)
  rw [if_neg (by simp)]
  exact bl9 T hA.1 u (ix p.Tables u.Table) rfl (fun a => a) (fun c => dv ⟨c.p, c.cells⟩) 4000000 (by omega) (fun cs' _ => (wa ⟨p, cs'⟩).symm) _ 0 [] (by show 0 + _ ≤ 4000000; omega)
end
theorem aq3 (l : List Int) : ∀ (m : Nat) (i : Int), lf l l (fun _ => true) m i = true
 | 0, i => by rw [lf]
 | m + 1, i => by rw [lf, if_neg (by simp)]; exact aq3 l m (i + 1)
theorem af3 (l : List Int) : my l l = true := by
 unfold my
 rw [if_neg (by simp)]
 exact aq3 l _ _
theorem AccessUnits_law (p : ab) (u : ct) : mv p u = true := by
 unfold mv
 simp only [LET]
 split
 ·rfl
 ·rename_i h
  simp only [Bool.or_eq_true, decide_eq_true_eq, not_or, Bool.not_eq_true] at h
  have T := cv8 h.1
  have hA := tlAB h.1 rfl
  rw [bt8 T hA u (by omega), bj2 T hA u, af3, af3]
  rfl
end Go.Proofs.YtmonnlkagniolaaGreat
