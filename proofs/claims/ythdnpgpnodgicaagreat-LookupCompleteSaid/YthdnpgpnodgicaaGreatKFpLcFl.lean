import Derived.Test.YthdnpgpnodgicaaGreatKTkPu
set_option linter.unusedVariables false
set_option linter.unusedSimpArgs false
set_option maxRecDepth 100000
namespace Go.Proofs.YthdnpgpnodgicaaGreat
open Go Go.Pb Go.RowKit
def zT : ax := { Name := [], Keys := [], Actions := [], Default := { Action := 0, Args := [] }, Size := 0 }
def ownP (p : aa) (t : Int) : aa := { Name := [], Headers := [], Metadata := [], Registers := [], Actions := [], Tables := (List.replicate (t + 1).toNat zT).set t.toNat { zT with Keys := (ix p.Tables t).Keys }, States := [], Control := [], Deparser := [] }
inductive Tr where
 | nil
 | node (l r : Tr) (s : Bool) (v : Int)
def bitT (w : Int) (x : BitVec 32) (d : Int) : BitVec 32 := (x >>> (w - 1 - d).toNat) &&& 1#32
theorem at9 (w : Int) (x : BitVec 32) (d : Int) : bitT w x d = 0#32 ∨ bitT w x d = 1#32 := by
 unfold bitT
 generalize x >>> (w - 1 - d).toNat = y
 have : (y &&& 1#32).toNat < 2 := by
  have e : (y &&& 1#32).toNat = y.toNat % 2 := by rw [BitVec.toNat_and]; exact Nat.and_one_is_mod _
  rw [e]; omega
 rcases Nat.lt_or_ge (y &&& 1#32).toNat 1 with h | h
 ·left; apply BitVec.eq_of_toNat_eq; simp only [BitVec.toNat_ofNat]; omega
 ·right; apply BitVec.eq_of_toNat_eq; simp only [BitVec.toNat_ofNat]; omega
def pfx (w : Int) (x : BitVec 32) (n : Int) : Bool := decide (0 ≤ n) && decide (n ≤ w) && kf x w
def mk : Tr → Tr
 | .nil => .node .nil .nil false 0
 | t => t
def fin (i : Int) : Tr → Tr
 | .nil => .nil
 | .node l r s v => if s then .node l r s v else .node l r true i
theorem ea7 {i : Int} {l r : Tr} {s : Bool} {v : Int} (h : s = true) : fin i (.node l r s v) = .node l r s v := by rw [h]; rfl
theorem ej4 {i : Int} {l r : Tr} {s : Bool} {v : Int} (h : s = false) : fin i (.node l r s v) = .node l r true i := by rw [h]; rfl
def ins (w : Int) (x : BitVec 32) (i : Int) : Nat → Int → Tr → Tr
 | 0, _, t => fin i t
 | _ + 1, _, .nil => .nil
 | m + 1, d, .node l r s v => if bitT w x d = 0#32 then .node (ins w x i m (d + 1) (mk l)) r s v else .node l (ins w x i m (d + 1) (mk r)) s v
def insT (w : Int) (x : BitVec 32) (n i : Int) (t : Tr) : Tr := if pfx w x n then ins w x i n.toNat 0 t else t
def lkT (w : Int) (x : BitVec 32) : Tr → Int → Int × Int × Bool → Int × Int × Bool
 | .nil, _, a => a
 | .node l r s v, d, a => if d = w then (if s = true then (v, d, true) else a) else if bitT w x d = 0#32 then lkT w x l (d + 1) (if s = true then (v, d, true) else a) else lkT w x r (d + 1) (if s = true then (v, d, true) else a)
def lkR (w : Int) (x : BitVec 32) (t : Tr) : Int × Int × Bool := if pfx w x 0 then lkT w x t 0 (0, 0, false) else (0, 0, false)
structure Ex where
 n : Int
 v : List (BitVec 32)
 deriving DecidableEq
def pkS (wo : Int) (st : Ex) (i : Int) (x : BitVec 32) : Ex := if !decide (i = wo) && decide (st.n < 6) then ⟨st.n + 1, st.v.set st.n.toNat x⟩ else st
def pkL (l : List (BitVec 32)) (wo : Int) : Nat → Int → Ex → Ex
 | 0, _, st => st
 | m + 1, i, st => pkL l wo m (i + 1) (pkS wo st i (ix l i))
def pk (l : List (BitVec 32)) (wo : Int) : Ex := pkL l wo l.length 0 ⟨0, List.replicate 6 0#32⟩
structure ExB (e : Ex) : Prop where
 lo : 0 ≤ e.n
 hi : e.n ≤ 6
 ln : e.v.length = 6
theorem ExB.step {wo i : Int} {st : Ex} {x : BitVec 32} (h : ExB st) : ExB (pkS wo st i x) := by
 unfold pkS
 split
 ·rename_i hc
  simp only [Bool.and_eq_true, decide_eq_true_eq] at hc
  exact ⟨by have := h.lo; show 0 ≤ st.n + 1; omega, by show st.n + 1 ≤ 6; omega, by rw [List.length_set]; exact h.ln⟩
 ·exact h
theorem ExB.pkL {l : List (BitVec 32)} {wo : Int} : ∀ (m : Nat) (i : Int) {st : Ex}, ExB st → ExB (pkL l wo m i st)
 | 0, _, _, h => h
 | m + 1, i, st, h => ExB.pkL m (i + 1) h.step
def wget {α : Type} (l : List (Ex × α)) (e : Ex) : Option α := match l with
 | [] => none
 | p :: r => if p.1 = e then some p.2 else wget r e
def wput {α : Type} (l : List (Ex × α)) (e : Ex) (v : α) : List (Ex × α) := match l with
 | [] => [(e, v)]
 | p :: r => if p.1 = e then (e, v) :: r else p :: wput r e v
theorem pk_B (l : List (BitVec 32)) (wo : Int) : ExB (pk l wo) := ExB.pkL _ _ ⟨by decide, by decide, rfl⟩
def fitsL (W : List Int) (k : List (BitVec 32)) : Nat → Int → Bool
 | 0, _ => true
 | m + 1, i => if (!kf (ix k i) (ix W i)) = true then false else fitsL W k m (i + 1)
def fitsK (W : List Int) (k : List (BitVec 32)) : Bool := fitsL W k W.length 0
theorem ar1 (x : aw) : ∀ (m : Nat) (i : Int) (z : List (BitVec 32)), m = Int.toNat ((x.Keys.length : Int) - i) → 0 ≤ i → jw x (fun z => z) m i z = z ++ (x.Keys.drop i.toNat).map (·.Value)
 | 0, i, z, hm, h0 => by
   rw [jw, List.drop_of_length_le (by omega)]
   simp
 | m + 1, i, z, hm, h0 => by
   have hlt : i.toNat < x.Keys.length := by omega
   rw [jw, ar1 x m (i + 1) _ (by omega) (by omega), List.drop_eq_getElem_cons hlt, qv h0 (by omega), show (i + 1).toNat = i.toNat + 1 by omega, List.map_cons, List.append_assoc]
   rfl
theorem br6 (x : aw) : oq x = x.Keys.map (·.Value) := by
 have h : oq x = _ := ar1 x _ 0 [] rfl (by omega)
 rw [h]; simp
theorem am0 {α : Type} {e e' : Ex} {v : α} : ∀ l : List (Ex × α), wget (wput l e v) e' = if e = e' then some v else wget l e'
 | [] => by simp only [wput, wget]
 | p :: l => by
   have ih := am0 (e := e) (e' := e') (v := v) l
   unfold wput
   by_cases h : p.1 = e
   ·rw [if_pos h]
    simp only [wget]
    by_cases h2 : e = e'
    ·rw [if_pos h2, if_pos h2]
    ·rw [if_neg h2, if_neg h2, if_neg (by rw [h]; exact h2)]
   ·rw [if_neg h]
    simp only [wget, ih]
    by_cases h2 : p.1 = e'
    ·rw [if_pos h2, if_neg (by rw [← h2]; exact fun q => h q.symm), if_pos h2]
    ·rw [if_neg h2, if_neg h2]
theorem az3 {α : Type} {e : Ex} {v v' : α} : ∀ l : List (Ex × α), wput (wput l e v) e v' = wput l e v'
 | [] => by simp [wput]
 | p :: l => by
   by_cases h : p.1 = e
   ·rw [show wput (p :: l) e v = (e, v) :: l by rw [wput, if_pos h], show wput (p :: l) e v' = (e, v') :: l by rw [wput, if_pos h], wput, if_pos rfl]
   ·rw [show wput (p :: l) e v = p :: wput l e v by rw [wput, if_neg h], show wput (p :: l) e v' = p :: wput l e v' by rw [wput, if_neg h], wput, if_neg h, az3 l]
abbrev IxS := List (Ex × Int) × List (Ex × Tr)
def bE (lp : Int) (r : am) : Ex := pk (oq r.Entry) lp
def bT (w lp : Int) (r : am) (i : Int) (t : Tr) : Tr := insT w (ix r.Entry.Keys lp).Value (ej (ix r.Entry.Keys lp).Mask w).1 i t
def t0 : Tr := .node .nil .nil false 0
def bS (w lp : Int) (r : am) (i : Int) (st : IxS) : IxS := if lp < 0 then (wput st.1 (bE lp r) i, st.2) else (st.1, wput st.2 (bE lp r) (bT w lp r i ((wget st.2 (bE lp r)).getD t0)))
def bL (w lp : Int) (l : List am) : Nat → Int → IxS → IxS
 | 0, _, st => st
 | m + 1, i, st => bL w lp l m (i + 1) (bS w lp (ix l i) i st)
theorem ca4 {w : Int} {x : BitVec 32} {i : Int} : ∀ {m : Nat} {d : Int} {t : Tr}, t ≠ .nil → ins w x i m d t ≠ .nil
 | 0, d, .nil, h => absurd rfl h
 | 0, d, .node l r s v, _ => by
   cases s <;> simp [ins, fin]
 | _ + 1, d, .nil, h => absurd rfl h
 | m + 1, d, .node l r s v, _ => by
   unfold ins
   split <;> simp
theorem cy8 {w : Int} {x : BitVec 32} {n i : Int} {t : Tr} (h : t ≠ .nil) : insT w x n i t ≠ .nil := by
 unfold insT
 split
 ·exact ca4 h
 ·exact h
structure RowB (W : List Int) (lp : Int) (l : List am) : Prop where
 n : l.length ≤ 1000
 k : ∀ j : Int, 0 ≤ j → j < l.length → (ix l j).Entry.Keys.length ≤ 20
 lk : ∀ j : Int, 0 ≤ j → j < l.length → 0 ≤ lp → lp < (ix l j).Entry.Keys.length ∧ (ej (ix (ix l j).Entry.Keys lp).Mask (ix W lp)).2 = true
 w : 0 ≤ lp → 0 < l.length → lp < W.length ∧ fc (ix W lp) ≠ 0#32 ∧ ix W lp ≤ 32
abbrev exz : Ex := ⟨0, List.replicate 6 0#32⟩
def lpX (ks : List bg) : Int := gw ks fun k => decide (k.Kind = 2)
def bR (kd : Int) (W : List Int) (lp : Int) (l : List am) : IxS := if kd = 3 then ([], []) else bL (ix W lp) lp l l.length 0 ([], [])
def newL (p : aa) (t : Int) (l : List am) : Nat → Int → List (Int × Bool) → Int
 | 0, _, _ => 0
 | m + 1, i, z => if (!decide (mr p t (ix l i).Entry = 0)) = true then mr p t (ix l i).Entry
   else if ((da (l.take i.toNat) fun x => jo x.Entry (ix l i).Entry).2 || (mget z (ix l i).ID).getD false) = true then 7
   else newL p t l m (i + 1) (mput z (ix l i).ID true)
def newE (p : aa) (t : Int) (l : List am) : Int := if (!decide ((ij p t).2 = 0)) = true then (ij p t).2 else newL p t l l.length 0 []
structure NewOK (p : aa) (t : Int) (l : List am) : Prop where
 a : 0 ≤ t
 b : t < p.Tables.length
 c : t ≤ 1000000
 d : (ix p.Tables t).Keys.length ≤ 2000
 e : iz p t ≠ 3 → RowB (du p t) (lpX (ix p.Tables t).Keys) l
theorem bz9 (p : aa) (t : Int) (h0 : 0 ≤ t) : t < (ownP p t).Tables.length := by
 show t < ((List.replicate (t + 1).toNat zT).set _ _).length
 simp; omega
theorem ar0 (p : aa) (t : Int) (h0 : 0 ≤ t) : (ix (ownP p t).Tables t).Keys = (ix p.Tables t).Keys := by
 show ((List.set (List.replicate (t + 1).toNat zT) t.toNat { zT with Keys := (ix p.Tables t).Keys }).getD t.toNat default).Keys = _
 rw [List.getD_eq_getElem?_getD, List.getElem?_set_self (by simp; omega)]
 rfl
def lpN (p : aa) (t : Int) : Int := if iz p t = 3 then -1 else lpX (ix p.Tables t).Keys
def bNd (p : aa) (t : Int) (l : List am) : IxS := bR (iz p t) (du p t) (lpX (ix p.Tables t).Keys) l
def zrow : am := { ID := 0, Entry := ({ Keys := ([] : List ba), Priority := 0, Call := ({ Action := 0, Args := ([] : List (BitVec 32)) } : bb) } : aw) }
def slowB (p : aa) (t : Int) (key : List (BitVec 32)) : Bool := (decide (iz p t = 3) || !decide ((key.length : Int) = ((ix p.Tables t).Keys.length : Int))) || !fitsK (du p t) key
def findP (p : aa) (t : Int) (l : List am) (key : List (BitVec 32)) : am × Bool :=
 if slowB p t key = true then ga (ownP p t) t l key
 else if lpN p t < 0 then match wget (bNd p t l).1 (pk key (lpN p t)) with
  | none => (zrow, false)
  | some i => (ix l i, true)
 else match wget (bNd p t l).2 (pk key (lpN p t)) with
  | none => (zrow, false)
  | some tr => if (lkR (ix (du p t) (lpN p t)) (ix key (lpN p t)) tr).2.2 = true then (ix l (lkR (ix (du p t) (lpN p t)) (ix key (lpN p t)) tr).1, true) else (zrow, false)
structure FindOK (p : aa) (t : Int) (l : List am) : Prop where
 a : 0 ≤ t
 b : t < p.Tables.length
 d : (ix p.Tables t).Keys.length ≤ 2000
 w : (du p t).length = (ix p.Tables t).Keys.length
 lp : lpN p t < (ix p.Tables t).Keys.length
 w32 : 0 ≤ lpN p t → ∀ e tr, wget (bNd p t l).2 e = some tr → ix (du p t) (lpN p t) ≤ 32
 i1 : lpN p t < 0 → ∀ e i, wget (bNd p t l).1 e = some i → 0 ≤ i ∧ i < l.length
 i2 : 0 ≤ lpN p t → ∀ e tr x, wget (bNd p t l).2 e = some tr → (lkR (ix (du p t) (lpN p t)) x tr).2.2 = true → 0 ≤ (lkR (ix (du p t) (lpN p t)) x tr).1 ∧ (lkR (ix (du p t) (lpN p t)) x tr).1 < l.length
theorem bj7 (l : List am) (q : am → Bool) (K : am → am × Bool) (hK : ∀ z, K z = (zrow, false)) : ∀ (m : Nat) (i : Int) (z : am), m = Int.toNat ((l.length : Int) - i) → 0 ≤ i → fm l q K m i z = match (l.drop i.toNat).find? q with | some r => (r, true) | none => (zrow, false)
 | 0, i, z, hm, h0 => by
   rw [fm, List.drop_of_length_le (by omega)]
   exact hK z
 | m + 1, i, z, hm, h0 => by
   have hlt : i.toNat < l.length := by omega
   rw [fm, List.drop_eq_getElem_cons hlt, List.find?_cons, qv h0 (by omega)]
   cases hq : q l[i.toNat]
   ·simp only [Bool.false_eq_true, if_false]
    rw [bj7 l q K hK m (i + 1) z (by omega) (by omega), show (i + 1).toNat = i.toNat + 1 by omega]
   ·simp
theorem ah2 (l : List am) (q : am → Bool) : da l q = match l.find? q with | some r => (r, true) | none => (zrow, false) := by
 have h : da l q = _ := bj7 l q (fun _ => (zrow, false)) (fun _ => rfl) _ 0 zrow rfl (by omega)
 rw [h, show Int.toNat 0 = 0 from rfl, List.drop_zero]
def Bf (p : aa) (t : Int) (a b : am) : Prop :=
 b.Entry.Priority < a.Entry.Priority ∨ (a.Entry.Priority = b.Entry.Priority ∧ (jp p t b.Entry < jp p t a.Entry ∨ (jp p t a.Entry = jp p t b.Entry ∧ a.ID < b.ID)))
theorem wb (p : aa) (t : Int) (a b : am) : de p t a b = true ↔ Bf p t a b := by
 unfold de Bf
 simp only [LET]
 by_cases h1 : a.Entry.Priority = b.Entry.Priority
 ·rw [if_neg (by simp [h1])]
  by_cases h2 : jp p t a.Entry = jp p t b.Entry
  ·rw [if_neg (by simp [h2])]
   simp only [decide_eq_true_eq]
   omega
  ·rw [if_pos (by simp [h2])]
   simp only [decide_eq_true_eq]
   omega
 ·rw [if_pos (by simp [h1])]
  simp only [decide_eq_true_eq]
  omega
section
variable (p : aa) (t : Int) (k : List (BitVec 32))
def pick (st : Bool × am) (r : am) : Bool × am := if cq r.Entry k && (!st.1 || de p t r st.2) then (true, r) else st
theorem bd8 (l : List am) (ht : 0 ≤ t ∧ t < p.Tables.length) : ∀ (m : Nat) (f : Bool) (i : Int) (b : am), m = Int.toNat ((l.length : Int) - i) → 0 ≤ i →
 ow p t l k (fun f b => (b, f)) m f i b = (((l.drop i.toNat).foldl (pick p t k) (f, b)).2, ((l.drop i.toNat).foldl (pick p t k) (f, b)).1)
 | 0, f, i, b, hm, h0 => by
   rw [ow, List.drop_of_length_le (by omega)]
   rfl
 | m + 1, f, i, b, hm, h0 => by
   have hlt : i.toNat < l.length := by omega
   rw [ow, List.drop_eq_getElem_cons hlt, List.foldl_cons, if_pos (by simp only [Bool.and_eq_true, decide_eq_true_eq]; omega)]
   simp only [LET]
   rw [qv h0 (by omega), ← Matches_eq, ← Precedes_eq]
   have e : (i + 1).toNat = i.toNat + 1 := by omega
   unfold pick
   split
   ·rw [bd8 l ht m true (i + 1) _ (by omega) (by omega), e]
    rfl
   ·rw [bd8 l ht m f (i + 1) b (by omega) (by omega), e]
    rfl
theorem bh9 (l : List am) (ht : 0 ≤ t ∧ t < p.Tables.length) : od p t l k = ((l.foldl (pick p t k) (false, zrow)).2, (l.foldl (pick p t k) (false, zrow)).1) := by
 have h : od p t l k = _ := bd8 p t k l ht _ false 0 zrow rfl (by omega)
 rw [h, show Int.toNat 0 = 0 from rfl, List.drop_zero]
def InvB (a : List am) (st : Bool × am) : Prop :=
 (st = (false, zrow) ∧ ∀ r ∈ a, cq r.Entry k = false) ∨
 ∃ pre b post, st = (true, b) ∧ a = pre ++ b :: post ∧ cq b.Entry k = true ∧ (∀ x ∈ pre, cq x.Entry k = true → Bf p t b x) ∧ ∀ x ∈ post, cq x.Entry k = true → ¬Bf p t x b
theorem cm3 {a : List am} {st : Bool × am} {r : am} (H : InvB p t k a st) : InvB p t k (a ++ [r]) (pick p t k st r) := by
 unfold pick
 rcases H with ⟨rfl, hall⟩ | ⟨pre, b, post, rfl, rfl, hb, h1, h2⟩
 ·cases hm : cq r.Entry k
  ·left
   refine ⟨by simp, fun x hx => ?_⟩
   rcases List.mem_append.1 hx with hx | hx
   ·exact hall x hx
   ·rw [List.mem_singleton.1 hx]; exact hm
  ·right
   refine ⟨a, r, [], by simp, rfl, hm, fun x hx hx2 => ?_, fun x hx => by simp at hx⟩
   rw [hall x hx] at hx2; cases hx2
 ·right
  cases hm : cq r.Entry k
  ·refine ⟨pre, b, post ++ [r], by simp, by simp, hb, h1, fun x hx hx2 => ?_⟩
   rcases List.mem_append.1 hx with hx | hx
   ·exact h2 x hx hx2
   ·rw [List.mem_singleton.1 hx, hm] at hx2; cases hx2
  ·cases hp : de p t r b
   ·refine ⟨pre, b, post ++ [r], by simp [hp], by simp, hb, h1, fun x hx hx2 => ?_⟩
    rcases List.mem_append.1 hx with hx | hx
    ·exact h2 x hx hx2
    ·rw [List.mem_singleton.1 hx]
     intro hB
     rw [(wb p t r b).2 hB] at hp; cases hp
   ·have hB := (wb p t r b).1 hp
    refine ⟨pre ++ b :: post, r, [], by simp [hp], by simp, hm, fun x hx hx2 => ?_, fun x hx => by simp at hx⟩
    rcases List.mem_append.1 hx with hx | hx
    ·have := h1 x hx hx2
     unfold Bf at *; omega
    ·rcases List.mem_cons.1 hx with rfl | hx
     ·exact hB
     ·have := h2 x hx hx2
      unfold Bf at *; omega
theorem ai7 : ∀ (c a : List am) (st : Bool × am), InvB p t k a st → InvB p t k (a ++ c) (c.foldl (pick p t k) st)
 | [], a, st, H => by simpa using H
 | r :: c, a, st, H => by
   have := ai7 c (a ++ [r]) _ (cm3 p t k (r := r) H)
   simpa using this
theorem beat {l : List am} {x b : am} (hb : b ∈ l) (h1 : cq b.Entry k = true) (h2 : Bf p t b x) : (da l (fun y => cq y.Entry k && de p t y x)).2 = true := by
 rw [ah2]
 cases hf : l.find? (fun y => cq y.Entry k && de p t y x) with
 | some r => rfl
 | none =>
   exfalso
   have := List.find?_eq_none.1 hf b hb
   rw [h1, (wb p t b x).2 h2] at this
   simp at this
theorem df4 (l : List am) (ht : 0 ≤ t ∧ t < p.Tables.length) : ga p t l k = od p t l k := by
 rw [bh9 p t k l ht]
 unfold ga
 rw [if_neg (by simp only [Bool.or_eq_true, decide_eq_true_eq]; omega), ah2]
 have H := ai7 p t k l [] (false, zrow) (.inl ⟨rfl, fun r hr => by simp at hr⟩)
 rw [List.nil_append] at H
 rcases H with ⟨e, hall⟩ | ⟨pre, b, post, e, hl, hb, h1, h2⟩
 ·rw [e, List.find?_eq_none.2 fun r hr => by rw [hall r hr]; simp]
 ·rw [e]
  have hbl : b ∈ l := by rw [hl]; simp
  have hf : l.find? (fun r => cq r.Entry k && !(da l (fun x => cq x.Entry k && de p t x r)).2) = some b := by
   rw [List.find?_eq_some_iff_append]
   refine ⟨?_, pre, post, hl, fun x hx => ?_⟩
   ·rw [hb, Bool.true_and, ah2]
    have hn : l.find? (fun x => cq x.Entry k && de p t x b) = none := by
     rw [List.find?_eq_none]
     intro x hx hc
     simp only [Bool.and_eq_true] at hc
     have hB := (wb p t x b).1 hc.2
     rw [hl] at hx
     rcases List.mem_append.1 hx with hx | hx
     ·have := h1 x hx hc.1
      unfold Bf at *; omega
     ·rcases List.mem_cons.1 hx with rfl | hx
      ·unfold Bf at hB; omega
      ·exact h2 x hx hc.1 hB
    rw [hn]
    rfl
   ·cases hm : cq x.Entry k
    ·simp
    ·rw [beat p t k hbl hb (h1 x hx hm)]
     simp
  rw [hf]
end
theorem be3 {α β : Type} [Inhabited α] [Inhabited β] (f : α → β) {l : List α} {i : Int} (h0 : 0 ≤ i) (h1 : i < l.length) : ix (l.map f) i = f (ix l i) := by
 rw [qv h0 (by simpa using h1), qv h0 h1, List.getElem_map]
theorem yr {α : Type} [Inhabited α] {l : List α} {a : α} : a ∈ l ↔ ∃ j : Int, 0 ≤ j ∧ j < l.length ∧ ix l j = a := by
 constructor
 ·intro h
  obtain ⟨k, hk, rfl⟩ := List.getElem_of_mem h
  exact ⟨k, by omega, by omega, cg3 hk⟩
 ·rintro ⟨j, h0, h1, rfl⟩
  rw [qv h0 h1]; exact List.getElem_mem _
theorem br5 {l : List am} {q : am → Bool} {i : Int} (h0 : 0 ≤ i) (h1 : i ≤ l.length) : (da (l.take i.toNat) q).2 = true ↔ ∃ j : Int, 0 ≤ j ∧ j < i ∧ q (ix l j) = true := by
 rw [ah2]
 constructor
 ·intro h
  cases hf : (l.take i.toNat).find? q with
  | none => rw [hf] at h; cases h
  | some r =>
    have h2 := List.find?_some hf
    obtain ⟨k, hk, e⟩ := List.getElem_of_mem (List.mem_of_find?_eq_some hf)
    rw [List.length_take] at hk
    rw [List.getElem_take] at e
    exact ⟨k, by omega, by omega, by rw [cg3 (by omega), e]; exact h2⟩
 ·rintro ⟨j, h2, h3, h4⟩
  cases hf : (l.take i.toNat).find? q with
  | some r => rfl
  | none =>
    exfalso
    refine List.find?_eq_none.1 hf (ix l j) ?_ h4
    rw [qv h2 (by omega)]
    exact List.mem_take_iff_getElem.2 ⟨j.toNat, by rw [Nat.lt_min]; omega, rfl⟩
def Clash (l : List am) (j i : Int) : Prop := (ix l j).ID = (ix l i).ID ∨ qh (ix l j).Entry (ix l i).Entry = true
theorem bf1 (l : List am) (i : Int) (K : Unit → Int) : ∀ (m : Nat) (j : Int), m = Int.toNat (i - j) → ((∃ k, j ≤ k ∧ k < i ∧ Clash l k i) ∧ pm l i K m j = 7) ∨ ((∀ k, j ≤ k → k < i → ¬Clash l k i) ∧ pm l i K m j = K ())
 | 0, j, hm => .inr ⟨fun k h1 h2 => by omega, rfl⟩
 | m + 1, j, hm => by
   rw [pm]
   by_cases h : Clash l j i
   ·left
    refine ⟨⟨j, by omega, by omega, h⟩, if_pos ?_⟩
    simpa [Clash] using h
   ·rw [if_neg (by simpa [Clash] using h)]
    rcases bf1 l i K m (j + 1) (by omega) with ⟨⟨k, h1, h2, h3⟩, e⟩ | ⟨h1, e⟩
    ·exact .inl ⟨⟨k, by omega, h2, h3⟩, e⟩
    ·refine .inr ⟨fun k h2 h3 => ?_, e⟩
     by_cases hk : k = j
     ·subst hk; exact h
     ·exact h1 k (by omega) h3
theorem bl7 (p : aa) (t : Int) (l : List am) : ∀ (m : Nat) (i : Int) (z : List (Int × Bool)), m = Int.toNat ((l.length : Int) - i) → 0 ≤ i → i ≤ l.length → Seen (l.map (·.ID)) i z → newL p t l m i z = lb p t l (fun _ => 0) m i
 | 0, i, z, hm, h0, h1, hz => rfl
 | m + 1, i, z, hm, h0, h1, hz => by
   have hlt : i < (l.length : Int) := by omega
   have ih := bl7 p t l m (i + 1) (mput z (ix l i).ID true) (by omega) (by omega) (by omega) (by have := hz.step h0; rwa [be3 _ h0 hlt] at this)
   rw [newL, lb, bt0]
   simp only [LET]
   split
   ·rfl
   ·have hc : ((da (l.take i.toNat) fun x => jo x.Entry (ix l i).Entry).2 || (mget z (ix l i).ID).getD false) = true ↔ ∃ k, 0 ≤ k ∧ k < i ∧ Clash l k i := by
     rw [Bool.or_eq_true, br5 h0 (by omega), hz]
     constructor
     ·rintro (⟨j, h2, h3, h4⟩ | ⟨j, h2, h3, h4⟩)
      ·exact ⟨j, h2, h3, .inr (by rw [← SameKey_eq]; exact h4)⟩
      ·rw [be3 _ h2 (by omega)] at h4
       exact ⟨j, h2, h3, .inl h4⟩
     ·rintro ⟨j, h2, h3, h4 | h4⟩
      ·exact .inr ⟨j, h2, h3, by rw [be3 _ h2 (by omega)]; exact h4⟩
      ·exact .inl ⟨j, h2, h3, by rw [SameKey_eq]; exact h4⟩
    rcases bf1 l i (fun _ => lb p t l (fun _ => 0) m (i + 1)) (Int.toNat (i - 0)) 0 rfl with ⟨h2, e⟩ | ⟨h2, e⟩
    ·rw [if_pos (hc.2 h2), e]
    ·rw [if_neg (fun h => by obtain ⟨k, h3, h4, h5⟩ := hc.1 h; exact h2 k h3 h4 h5), e, ih]
theorem bo6 (p : aa) (t : Int) (l : List am) : newE p t l = mo p t l := by
 unfold newE mo
 simp only [LET]
 rw [Check_eq]
 split
 ·rfl
 ·rw [bl7 p t l l.length 0 [] (by omega) (by omega) (by omega) (fun a => by simp [mget]; intro j h1 h2; omega)]
  simp
structure GoodR (p : aa) (t : Int) (l : List am) : Prop where
 tc : (gz p t).2 = 0
 rc : ∀ i : Int, 0 ≤ i → i < l.length → nu p t (ix l i).Entry = 0
 ds : ∀ j i : Int, 0 ≤ j → j < i → i < l.length → ¬Clash l j i
theorem bq0 (p : aa) (t : Int) (l : List am) : ∀ (m : Nat) (i : Int), m = Int.toNat ((l.length : Int) - i) → 0 ≤ i → (lb p t l (fun _ => 0) m i = 0 ↔ ∀ k : Int, i ≤ k → k < l.length → nu p t (ix l k).Entry = 0 ∧ ∀ j, 0 ≤ j → j < k → ¬Clash l j k)
 | 0, i, hm, h0 => ⟨fun _ k h1 h2 => by omega, fun _ => rfl⟩
 | m + 1, i, hm, h0 => by
   rw [lb]
   simp only [LET]
   have ih := bq0 p t l m (i + 1) (by omega) (by omega)
   by_cases hc : nu p t (ix l i).Entry = 0
   ·rw [if_neg (by simp [hc])]
    rcases bf1 l i (fun _ => lb p t l (fun _ => 0) m (i + 1)) (Int.toNat (i - 0)) 0 rfl with ⟨⟨k, h2, h3, h4⟩, e⟩ | ⟨h2, e⟩
    ·rw [e]
     exact ⟨fun h => by omega, fun h => absurd h4 ((h i (by omega) (by omega)).2 k h2 h3)⟩
    ·rw [e, ih]
     constructor
     ·intro h k h3 h4
      by_cases hk : k = i
      ·subst hk; exact ⟨hc, h2⟩
      ·exact h k (by omega) h4
     ·intro h k h3 h4
      exact h k (by omega) h4
   ·rw [if_pos (by simp [hc])]
    exact ⟨fun h => absurd h hc, fun h => absurd (h i (by omega) (by omega)).1 hc⟩
theorem xz (p : aa) (t : Int) (l : List am) : mo p t l = 0 ↔ GoodR p t l := by
 unfold mo
 simp only [LET]
 by_cases hc : (gz p t).2 = 0
 ·rw [if_neg (by simp [hc]), bq0 p t l _ 0 rfl (by omega)]
  exact ⟨fun h => ⟨hc, fun i h1 h2 => (h i h1 h2).1, fun j i h1 h2 h3 => (h i (by omega) h3).2 j h1 h2⟩, fun h k h1 h2 => ⟨h.rc k h1 h2, fun j h3 h4 => h.ds j k h3 h4 h2⟩⟩
 ·rw [if_pos (by simp [hc])]
  exact ⟨fun h => absurd h hc, fun h => absurd h.tc hc⟩
theorem an0 (x : aw) (k : List (BitVec 32)) : ∀ (m : Nat) (i : Int), m = Int.toNat ((x.Keys.length : Int) - i) → 0 ≤ i → (jb x k (fun _ => true) m i = true ↔ ∀ j : Int, i ≤ j → j < x.Keys.length → (ix k j ^^^ (ix x.Keys j).Value) &&& (ix x.Keys j).Mask = 0#32)
 | 0, i, hm, h0 => ⟨fun _ j h1 h2 => by omega, fun _ => rfl⟩
 | m + 1, i, hm, h0 => by
   rw [jb]
   have ih := an0 x k m (i + 1) (by omega) (by omega)
   by_cases hc : (ix k i ^^^ (ix x.Keys i).Value) &&& (ix x.Keys i).Mask = 0#32
   ·rw [if_neg (by simp [hc]), ih]
    constructor
    ·intro h j h1 h2
     by_cases hj : j = i
     ·subst hj; exact hc
     ·exact h j (by omega) h2
    ·intro h j h1 h2; exact h j (by omega) h2
   ·rw [if_pos (by simp [hc])]
    exact ⟨fun h => (by cases h), fun h => absurd (h i (by omega) (by omega)) hc⟩
theorem ay4 (x : aw) (k : List (BitVec 32)) : cq x k = true ↔ k.length = x.Keys.length ∧ ∀ j : Int, 0 ≤ j → j < x.Keys.length → (ix k j ^^^ (ix x.Keys j).Value) &&& (ix x.Keys j).Mask = 0#32 := by
 unfold cq
 by_cases hl : k.length = x.Keys.length
 ·rw [if_neg (by simp [hl]), an0 x k _ 0 (by omega) (by omega)]
  exact ⟨fun h => ⟨hl, h⟩, fun h => h.2⟩
 ·rw [if_pos (by simp; omega)]
  exact ⟨fun h => (by cases h), fun h => absurd h.1 hl⟩
theorem bj9 (p : aa) (t : Int) (x : aw) (w : List Int) (K : Unit → Int) : ∀ (m : Nat) (i : Int), m = Int.toNat ((w.length : Int) - i) → 0 ≤ i → nk p t x w K m i = 0 → K () = 0 ∧ ∀ j : Int, i ≤ j → j < w.length → lw (ix x.Keys j) (ix w j) (ix (ix p.Tables t).Keys j).Kind = 0
 | 0, i, hm, h0, h => ⟨h, fun j h1 h2 => by omega⟩
 | m + 1, i, hm, h0, h => by
   rw [nk] at h
   simp only [LET] at h
   split at h
   ·rename_i hc
    simp at hc
    exact absurd h hc
   ·rename_i hc
    simp only [Bool.not_eq_true', decide_eq_false_iff_not, Decidable.not_not] at hc
    obtain ⟨h1, h2⟩ := bj9 p t x w K m (i + 1) (by omega) (by omega) h
    refine ⟨h1, fun j h3 h4 => ?_⟩
    by_cases hj : j = i
    ·subst hj; exact hc
    ·exact h2 j (by omega) h4
structure RowG (p : aa) (t : Int) (x : aw) : Prop where
 n : x.Keys.length = (ix p.Tables t).Keys.length
 k : ∀ j : Int, 0 ≤ j → j < x.Keys.length → lw (ix x.Keys j) (ix (br p t) j) (ix (ix p.Tables t).Keys j).Kind = 0
 pr : ud p t ≠ 3 → x.Priority = 0
theorem cc1 {p : aa} {t : Int} {x : aw} (h : nu p t x = 0) : RowG p t x := by
 unfold nu at h
 simp only [LET] at h
 split at h
 ·rename_i hc
  simp at hc
  exact absurd h hc
 ·rename_i hc
  simp only [Bool.not_eq_true', decide_eq_false_iff_not, Decidable.not_not] at hc
  have hw := (reck rfl hc rfl).2
  split at h
  ·omega
  ·rename_i hl
   simp only [Bool.not_eq_true', decide_eq_false_iff_not, Decidable.not_not] at hl
   obtain ⟨h1, h2⟩ := bj9 p t x _ _ _ 0 rfl (by omega) h
   refine ⟨by omega, fun j h3 h4 => h2 j h3 (by omega), fun hk => ?_⟩
   split at h1
   ·omega
   ·rename_i hp
    simp only [Bool.or_eq_true, decide_eq_true_eq, not_or] at hp
    split at h1
    ·omega
    ·rename_i hq
     simp [hk] at hq
     omega
structure KeyG (m : ba) (w kd : Int) : Prop where
 f : md m.Value w = true
 g : md m.Mask w = true
 v : m.Value &&& m.Mask = m.Value
 e : kd = 1 → m.Mask = pt w
 l : kd = 2 → (oo m.Mask w).2 = true
theorem cm9 {m : ba} {w kd : Int} (h : lw m w kd = 0) : KeyG m w kd := by
 unfold lw at h
 simp only [LET] at h
 split at h
 ·omega
 ·rename_i h1
  split at h
  ·omega
  ·rename_i h2
   split at h
   ·omega
   ·rename_i h3
    simp only [Bool.or_eq_true, Bool.not_eq_true', not_or, Bool.not_eq_false] at h1
    simp only [Bool.not_eq_true', decide_eq_false_iff_not, Decidable.not_not] at h2
    refine ⟨h1.1, h1.2, h2, fun hk => ?_, fun hk => ?_⟩
    ·apply Decidable.byContradiction
     intro hn
     exact h3 (by simp [hk, hn])
    ·apply Decidable.byContradiction
     intro hn
     exact h3 (by simp [hk, hn])
end Go.Proofs.YthdnpgpnodgicaaGreat
