import Derived.Test.YthdnpgpnodgicaaGreatKTkPu
set_option linter.all false
set_option maxRecDepth 100000
namespace Go.Proofs.YthdnpgpnodgicaaGreat
open Go Go.Pb Go.RowKit
def zT : az := { Name := [], Keys := [], Actions := [], Default := { Action := 0, Args := [] }, Size := 0 }
def ownP (p : aa) (t : Int) : aa := { Name := [], Headers := [], Metadata := [], Registers := [], Actions := [], Tables := (List.replicate (t + 1).toNat zT).set t.toNat { zT with Keys := (ix p.Tables t).Keys }, States := [], Control := [], Deparser := [] }
inductive Tr where
 | nil
 | node (l r : Tr) (s : Bool) (v : Int)
def bitT (w : Int) (x : BitVec 32) (d : Int) : BitVec 32 := (x >>> (w - 1 - d).toNat) &&& 1#32
theorem aw8 (w : Int) (x : BitVec 32) (d : Int) : bitT w x d = 0#32 ∨ bitT w x d = 1#32 := by
 unfold bitT
 generalize x >>> (w - 1 - d).toNat = y
 have : (y &&& 1#32).toNat < 2 := by
  have e : (y &&& 1#32).toNat = y.toNat % 2 := by rw [BitVec.toNat_and]; exact Nat.and_one_is_mod _
  rw [e]; omega
 rcases Nat.lt_or_ge (y &&& 1#32).toNat 1 with h | h
 ·left; apply BitVec.eq_of_toNat_eq; simp only [BitVec.toNat_ofNat]; omega
 ·right; apply BitVec.eq_of_toNat_eq; simp only [BitVec.toNat_ofNat]; omega
def pfx (w : Int) (x : BitVec 32) (n : Int) : Bool := decide (0 ≤ n) && decide (n ≤ w) && kh x w
def mk : Tr → Tr
 | .nil => .node .nil .nil false 0
 | t => t
def fin (i : Int) : Tr → Tr
 | .nil => .nil
 | .node l r s v => if s then .node l r s v else .node l r true i
theorem ec1 {i : Int} {l r : Tr} {s : Bool} {v : Int} (h : s = true) : fin i (.node l r s v) = .node l r s v := by rw [h]; rfl
theorem ed6 {i : Int} {l r : Tr} {s : Bool} {v : Int} (h : s = false) : fin i (.node l r s v) = .node l r true i := by rw [h]; rfl
def ins (w : Int) (x : BitVec 32) (i : Int) : Nat → Int → Tr → Tr
 | 0, _, t => fin i t
 | _ + 1, _, .nil => .nil
 | m + 1, d, .node l r s v => if bitT w x d = 0#32 then .node (ins w x i m (d + 1) (mk l)) r s v else .node l (ins w x i m (d + 1) (mk r)) s v
def insT (w : Int) (x : BitVec 32) (n i : Int) (t : Tr) : Tr := if pfx w x n then ins w x i n.toNat 0 t else t
def lkT (w : Int) (x : BitVec 32) : Tr → Int → Int × Int × Bool → Int × Int × Bool
 | .nil, _, a => a
 | .node l r s v, d, a => if d = w then (if s = true then (v, d, true) else a) else if bitT w x d = 0#32 then lkT w x l (d + 1) (if s = true then (v, d, true) else a) else lkT w x r (d + 1) (if s = true then (v, d, true) else a)
def lkR (w : Int) (x : BitVec 32) (t : Tr) : Int × Int × Bool := if pfx w x 0 then lkT w x t 0 (0, 0, false) else (0, 0, false)
structure Ex where
 n : Int
 v : List (BitVec 32)
 deriving DecidableEq
def pkS (wo : Int) (st : Ex) (i : Int) (x : BitVec 32) : Ex := if !decide (i = wo) && decide (st.n < 6) then ⟨st.n + 1, st.v.set st.n.toNat x⟩ else st
def pkL (l : List (BitVec 32)) (wo : Int) : Nat → Int → Ex → Ex
 | 0, _, st => st
 | m + 1, i, st => pkL l wo m (i + 1) (pkS wo st i (ix l i))
def pk (l : List (BitVec 32)) (wo : Int) : Ex := pkL l wo l.length 0 ⟨0, List.replicate 6 0#32⟩
structure ExB (e : Ex) : Prop where
 lo : 0 ≤ e.n
 hi : e.n ≤ 6
 ln : e.v.length = 6
theorem ExB.step {wo i : Int} {st : Ex} {x : BitVec 32} (h : ExB st) : ExB (pkS wo st i x) := by
 unfold pkS
 split
 ·rename_i hc
  simp only [Bool.and_eq_true, decide_eq_true_eq] at hc
  exact ⟨by have := h.lo; show 0 ≤ st.n + 1; omega, by show st.n + 1 ≤ 6; omega, by rw [List.length_set]; exact h.ln⟩
 ·exact h
theorem ExB.pkL {l : List (BitVec 32)} {wo : Int} : ∀ (m : Nat) (i : Int) {st : Ex}, ExB st → ExB (pkL l wo m i st)
 | 0, _, _, h => h
 | m + 1, i, st, h => ExB.pkL m (i + 1) h.step
def wget {α : Type} (l : List (Ex × α)) (e : Ex) : Option α := match l with
 | [] => none
 | p :: r => if p.1 = e then some p.2 else wget r e
def wput {α : Type} (l : List (Ex × α)) (e : Ex) (v : α) : List (Ex × α) := match l with
 | [] => [(e, v)]
 | p :: r => if p.1 = e then (e, v) :: r else p :: wput r e v
theorem pk_B (l : List (BitVec 32)) (wo : Int) : ExB (pk l wo) := ExB.pkL _ _ ⟨by decide, by decide, rfl⟩
def fitsL (W : List Int) (k : List (BitVec 32)) : Nat → Int → Bool
 | 0, _ => true
 | m + 1, i => if (!kh (ix k i) (ix W i)) = true then false else fitsL W k m (i + 1)
def fitsK (W : List Int) (k : List (BitVec 32)) : Bool := fitsL W k W.length 0
theorem ap3 (x : av) : ∀ (m : Nat) (i : Int) (z : List (BitVec 32)), m = Int.toNat ((x.Keys.length : Int) - i) → 0 ≤ i → jz x (fun z => z) m i z = z ++ (x.Keys.drop i.toNat).map (·.Value)
 | 0, i, z, hm, h0 => by
   rw [jz, List.drop_of_length_le (by omega)]
   simp
 | m + 1, i, z, hm, h0 => by
   have hlt : i.toNat < x.Keys.length := by omega
   rw [jz, ap3 x m (i + 1) _ (by omega) (by omega), List.drop_eq_getElem_cons hlt, px h0 (by omega), show (i + 1).toNat = i.toNat + 1 by omega, List.map_cons, List.append_assoc]
   rfl
theorem bt1 (x : av) : ph x = x.Keys.map (·.Value) := by
 have h : ph x = _ := ap3 x _ 0 [] rfl (by omega)
 rw [h]; simp
theorem am5 {α : Type} {e e' : Ex} {v : α} : ∀ l : List (Ex × α), wget (wput l e v) e' = if e = e' then some v else wget l e'
 | [] => by simp only [wput, wget]
 | p :: l => by
   have ih := am5 (e := e) (e' := e') (v := v) l
   unfold wput
   by_cases h : p.1 = e
   ·rw [if_pos h]
    simp only [wget]
    by_cases h2 : e = e'
    ·rw [if_pos h2, if_pos h2]
    ·rw [if_neg h2, if_neg h2, if_neg (by rw [h]; exact h2)]
   ·rw [if_neg h]
    simp only [wget, ih]
    by_cases h2 : p.1 = e'
    ·rw [if_pos h2, if_neg (by rw [← h2]; exact fun q => h q.symm), if_pos h2]
    ·rw [if_neg h2, if_neg h2]
theorem ay1 {α : Type} {e : Ex} {v v' : α} : ∀ l : List (Ex × α), wput (wput l e v) e v' = wput l e v'
 | [] => by simp [wput]
 | p :: l => by
   by_cases h : p.1 = e
   ·rw [show wput (p :: l) e v = (e, v) :: l by rw [wput, if_pos h], show wput (p :: l) e v' = (e, v') :: l by rw [wput, if_pos h], wput, if_pos rfl]
   ·rw [show wput (p :: l) e v = p :: wput l e v by rw [wput, if_neg h], show wput (p :: l) e v' = p :: wput l e v' by rw [wput, if_neg h], wput, if_neg h, ay1 l]
abbrev IxS := List (Ex × Int) × List (Ex × Tr)
def bE (lp : Int) (r : ak) : Ex := pk (ph r.Entry) lp
def bT (w lp : Int) (r : ak) (i : Int) (t : Tr) : Tr := insT w (ix r.Entry.Keys lp).Value (ej (ix r.Entry.Keys lp).Mask w).1 i t
def t0 : Tr := .node .nil .nil false 0
def bS (w lp : Int) (r : ak) (i : Int) (st : IxS) : IxS := if lp < 0 then (wput st.1 (bE lp r) i, st.2) else (st.1, wput st.2 (bE lp r) (bT w lp r i ((wget st.2 (bE lp r)).getD t0)))
def bL (w lp : Int) (l : List ak) : Nat → Int → IxS → IxS
 | 0, _, st => st
 | m + 1, i, st => bL w lp l m (i + 1) (bS w lp (ix l i) i st)
theorem ce7 {w : Int} {x : BitVec 32} {i : Int} : ∀ {m : Nat} {d : Int} {t : Tr}, t ≠ .nil → ins w x i m d t ≠ .nil
 | 0, d, .nil, h => absurd rfl h
 | 0, d, .node l r s v, _ => by
   cases s <;> simp [ins, fin]
 | _ + 1, d, .nil, h => absurd rfl h
 | m + 1, d, .node l r s v, _ => by
   unfold ins
   split <;> simp
theorem da9 {w : Int} {x : BitVec 32} {n i : Int} {t : Tr} (h : t ≠ .nil) : insT w x n i t ≠ .nil := by
 unfold insT
 split
 ·exact ce7 h
 ·exact h
structure RowB (W : List Int) (lp : Int) (l : List ak) : Prop where
 n : l.length ≤ 1000
 k : ∀ j : Int, 0 ≤ j → j < l.length → (ix l j).Entry.Keys.length ≤ 20
 lk : ∀ j : Int, 0 ≤ j → j < l.length → 0 ≤ lp → lp < (ix l j).Entry.Keys.length ∧ (ej (ix (ix l j).Entry.Keys lp).Mask (ix W lp)).2 = true
 w : 0 ≤ lp → 0 < l.length → lp < W.length ∧ fa (ix W lp) ≠ 0#32 ∧ ix W lp ≤ 32
abbrev exz : Ex := ⟨0, List.replicate 6 0#32⟩
def lpX (ks : List bh) : Int := gj ks fun k => decide (k.Kind = 2)
def bR (kd : Int) (W : List Int) (lp : Int) (l : List ak) : IxS := if kd = 3 then ([], []) else bL (ix W lp) lp l l.length 0 ([], [])
def newL (p : aa) (t : Int) (l : List ak) : Nat → Int → List (Int × Bool) → Int
 | 0, _, _ => 0
 | m + 1, i, z => if (!decide (na p t (ix l i).Entry = 0)) = true then na p t (ix l i).Entry
   else if ((da (l.take i.toNat) fun x => jp x.Entry (ix l i).Entry).2 || (mget z (ix l i).ID).getD false) = true then 7
   else newL p t l m (i + 1) (mput z (ix l i).ID true)
def newE (p : aa) (t : Int) (l : List ak) : Int := if (!decide ((gy p t).2 = 0)) = true then (gy p t).2 else newL p t l l.length 0 []
structure NewOK (p : aa) (t : Int) (l : List ak) : Prop where
 a : 0 ≤ t
 b : t < p.Tables.length
 c : t ≤ 1000000
 d : (ix p.Tables t).Keys.length ≤ 2000
 e : il p t ≠ 3 → RowB (ee p t) (lpX (ix p.Tables t).Keys) l
theorem bx9 (p : aa) (t : Int) (h0 : 0 ≤ t) : t < (ownP p t).Tables.length := by
 show t < ((List.replicate (t + 1).toNat zT).set _ _).length
 simp; omega
theorem ar9 (p : aa) (t : Int) (h0 : 0 ≤ t) : (ix (ownP p t).Tables t).Keys = (ix p.Tables t).Keys := by
 show ((List.set (List.replicate (t + 1).toNat zT) t.toNat { zT with Keys := (ix p.Tables t).Keys }).getD t.toNat default).Keys = _
 rw [List.getD_eq_getElem?_getD, List.getElem?_set_self (by simp; omega)]
 rfl
def lpN (p : aa) (t : Int) : Int := if il p t = 3 then -1 else lpX (ix p.Tables t).Keys
def bNd (p : aa) (t : Int) (l : List ak) : IxS := bR (il p t) (ee p t) (lpX (ix p.Tables t).Keys) l
def zrow : ak := { ID := 0, Entry := ({ Keys := ([] : List bb), Priority := 0, Call := ({ Action := 0, Args := ([] : List (BitVec 32)) } : ax) } : av) }
def slowB (p : aa) (t : Int) (key : List (BitVec 32)) : Bool := (decide (il p t = 3) || !decide ((key.length : Int) = ((ix p.Tables t).Keys.length : Int))) || !fitsK (ee p t) key
def findP (p : aa) (t : Int) (l : List ak) (key : List (BitVec 32)) : ak × Bool :=
 if slowB p t key = true then jm (ownP p t) t l key
 else if lpN p t < 0 then match wget (bNd p t l).1 (pk key (lpN p t)) with
  | none => (zrow, false)
  | some i => (ix l i, true)
 else match wget (bNd p t l).2 (pk key (lpN p t)) with
  | none => (zrow, false)
  | some tr => if (lkR (ix (ee p t) (lpN p t)) (ix key (lpN p t)) tr).2.2 = true then (ix l (lkR (ix (ee p t) (lpN p t)) (ix key (lpN p t)) tr).1, true) else (zrow, false)
structure FindOK (p : aa) (t : Int) (l : List ak) : Prop where
 a : 0 ≤ t
 b : t < p.Tables.length
 d : (ix p.Tables t).Keys.length ≤ 2000
 w : (ee p t).length = (ix p.Tables t).Keys.length
 lp : lpN p t < (ix p.Tables t).Keys.length
 w32 : 0 ≤ lpN p t → ∀ e tr, wget (bNd p t l).2 e = some tr → ix (ee p t) (lpN p t) ≤ 32
 i1 : lpN p t < 0 → ∀ e i, wget (bNd p t l).1 e = some i → 0 ≤ i ∧ i < l.length
 i2 : 0 ≤ lpN p t → ∀ e tr x, wget (bNd p t l).2 e = some tr → (lkR (ix (ee p t) (lpN p t)) x tr).2.2 = true → 0 ≤ (lkR (ix (ee p t) (lpN p t)) x tr).1 ∧ (lkR (ix (ee p t) (lpN p t)) x tr).1 < l.length
theorem br6 (l : List ak) (q : ak → Bool) (K : ak → ak × Bool) (hK : ∀ z, K z = (zrow, false)) : ∀ (m : Nat) (i : Int) (z : ak), m = Int.toNat ((l.length : Int) - i) → 0 ≤ i → fq l q K m i z = match (l.drop i.toNat).find? q with | some r => (r, true) | none => (zrow, false)
 | 0, i, z, hm, h0 => by
   rw [fq, List.drop_of_length_le (by omega)]
   exact hK z
 | m + 1, i, z, hm, h0 => by
   have hlt : i.toNat < l.length := by omega
   rw [fq, List.drop_eq_getElem_cons hlt, List.find?_cons, px h0 (by omega)]
   cases hq : q l[i.toNat]
   ·simp only [Bool.false_eq_true, if_false]
    rw [br6 l q K hK m (i + 1) z (by omega) (by omega), show (i + 1).toNat = i.toNat + 1 by omega]
   ·simp
theorem aj2 (l : List ak) (q : ak → Bool) : da l q = match l.find? q with | some r => (r, true) | none => (zrow, false) := by
 have h : da l q = _ := br6 l q (fun _ => (zrow, false)) (fun _ => rfl) _ 0 zrow rfl (by omega)
 rw [h, show Int.toNat 0 = 0 from rfl, List.drop_zero]
def Bf (p : aa) (t : Int) (a b : ak) : Prop :=
 b.Entry.Priority < a.Entry.Priority ∨ (a.Entry.Priority = b.Entry.Priority ∧ (jq p t b.Entry < jq p t a.Entry ∨ (jq p t a.Entry = jq p t b.Entry ∧ a.ID < b.ID)))
theorem yr (p : aa) (t : Int) (a b : ak) : dk p t a b = true ↔ Bf p t a b := by
 unfold dk Bf
 simp only [LET]
 by_cases h1 : a.Entry.Priority = b.Entry.Priority
 ·rw [if_neg (by simp [h1])]
  by_cases h2 : jq p t a.Entry = jq p t b.Entry
  ·rw [if_neg (by simp [h2])]
   simp only [decide_eq_true_eq]
   omega
  ·rw [if_pos (by simp [h2])]
   simp only [decide_eq_true_eq]
   omega
 ·rw [if_pos (by simp [h1])]
  simp only [decide_eq_true_eq]
  omega
section
variable (p : aa) (t : Int) (k : List (BitVec 32))
def pick (st : Bool × ak) (r : ak) : Bool × ak := if cq r.Entry k && (!st.1 || dk p t r st.2) then (true, r) else st
theorem bf5 (l : List ak) (ht : 0 ≤ t ∧ t < p.Tables.length) : ∀ (m : Nat) (f : Bool) (i : Int) (b : ak), m = Int.toNat ((l.length : Int) - i) → 0 ≤ i →
 pg p t l k (fun f b => (b, f)) m f i b = (((l.drop i.toNat).foldl (pick p t k) (f, b)).2, ((l.drop i.toNat).foldl (pick p t k) (f, b)).1)
 | 0, f, i, b, hm, h0 => by
   rw [pg, List.drop_of_length_le (by omega)]
   rfl
 | m + 1, f, i, b, hm, h0 => by
   have hlt : i.toNat < l.length := by omega
   rw [pg, List.drop_eq_getElem_cons hlt, List.foldl_cons, if_pos (by simp only [Bool.and_eq_true, decide_eq_true_eq]; omega)]
   simp only [LET]
   rw [px h0 (by omega), ← Matches_eq, ← Precedes_eq]
   have e : (i + 1).toNat = i.toNat + 1 := by omega
   unfold pick
   split
   ·rw [bf5 l ht m true (i + 1) _ (by omega) (by omega), e]
    rfl
   ·rw [bf5 l ht m f (i + 1) b (by omega) (by omega), e]
    rfl
theorem ax1 (l : List ak) (ht : 0 ≤ t ∧ t < p.Tables.length) : qh p t l k = ((l.foldl (pick p t k) (false, zrow)).2, (l.foldl (pick p t k) (false, zrow)).1) := by
 have h : qh p t l k = _ := bf5 p t k l ht _ false 0 zrow rfl (by omega)
 rw [h, show Int.toNat 0 = 0 from rfl, List.drop_zero]
def InvB (a : List ak) (st : Bool × ak) : Prop :=
 (st = (false, zrow) ∧ ∀ r ∈ a, cq r.Entry k = false) ∨
 ∃ pre b post, st = (true, b) ∧ a = pre ++ b :: post ∧ cq b.Entry k = true ∧ (∀ x ∈ pre, cq x.Entry k = true → Bf p t b x) ∧ ∀ x ∈ post, cq x.Entry k = true → ¬Bf p t x b
theorem bz6 {a : List ak} {st : Bool × ak} {r : ak} (H : InvB p t k a st) : InvB p t k (a ++ [r]) (pick p t k st r) := by
 unfold pick
 rcases H with ⟨rfl, hall⟩ | ⟨pre, b, post, rfl, rfl, hb, h1, h2⟩
 ·cases hm : cq r.Entry k
  ·left
   refine ⟨by simp, fun x hx => ?_⟩
   rcases List.mem_append.1 hx with hx | hx
   ·exact hall x hx
   ·rw [List.mem_singleton.1 hx]; exact hm
  ·right
   refine ⟨a, r, [], by simp, rfl, hm, fun x hx hx2 => ?_, fun x hx => by simp at hx⟩
   rw [hall x hx] at hx2; cases hx2
 ·right
  cases hm : cq r.Entry k
  ·refine ⟨pre, b, post ++ [r], by simp, by simp, hb, h1, fun x hx hx2 => ?_⟩
   rcases List.mem_append.1 hx with hx | hx
   ·exact h2 x hx hx2
   ·rw [List.mem_singleton.1 hx, hm] at hx2; cases hx2
  ·cases hp : dk p t r b
   ·refine ⟨pre, b, post ++ [r], by simp [hp], by simp, hb, h1, fun x hx hx2 => ?_⟩
    rcases List.mem_append.1 hx with hx | hx
    ·exact h2 x hx hx2
    ·rw [List.mem_singleton.1 hx]
     intro hB
     rw [(yr p t r b).2 hB] at hp; cases hp
   ·have hB := (yr p t r b).1 hp
    refine ⟨pre ++ b :: post, r, [], by simp [hp], by simp, hm, fun x hx hx2 => ?_, fun x hx => by simp at hx⟩
    rcases List.mem_append.1 hx with hx | hx
    ·have := h1 x hx hx2
     unfold Bf at *; omega
    ·rcases List.mem_cons.1 hx with rfl | hx
     ·exact hB
     ·have := h2 x hx hx2
      unfold Bf at *; omega
theorem ab6 : ∀ (c a : List ak) (st : Bool × ak), InvB p t k a st → InvB p t k (a ++ c) (c.foldl (pick p t k) st)
 | [], a, st, H => by simpa using H
 | r :: c, a, st, H => by
   have := ab6 c (a ++ [r]) _ (bz6 p t k (r := r) H)
   simpa using this
theorem beat {l : List ak} {x b : ak} (hb : b ∈ l) (h1 : cq b.Entry k = true) (h2 : Bf p t b x) : (da l (fun y => cq y.Entry k && dk p t y x)).2 = true := by
 rw [aj2]
 cases hf : l.find? (fun y => cq y.Entry k && dk p t y x) with
 | some r => rfl
 | none =>
   exfalso
   have := List.find?_eq_none.1 hf b hb
   rw [h1, (yr p t b x).2 h2] at this
   simp at this
theorem cr8 (l : List ak) (ht : 0 ≤ t ∧ t < p.Tables.length) : jm p t l k = qh p t l k := by
 rw [ax1 p t k l ht]
 unfold jm
 rw [if_neg (by simp only [Bool.or_eq_true, decide_eq_true_eq]; omega), aj2]
 have H := ab6 p t k l [] (false, zrow) (.inl ⟨rfl, fun r hr => by simp at hr⟩)
 rw [List.nil_append] at H
 rcases H with ⟨e, hall⟩ | ⟨pre, b, post, e, hl, hb, h1, h2⟩
 ·rw [e, List.find?_eq_none.2 fun r hr => by rw [hall r hr]; simp]
 ·rw [e]
  have hbl : b ∈ l := by rw [hl]; simp
  have hf : l.find? (fun r => cq r.Entry k && !(da l (fun x => cq x.Entry k && dk p t x r)).2) = some b := by
   rw [List.find?_eq_some_iff_append]
   refine ⟨?_, pre, post, hl, fun x hx => ?_⟩
   ·rw [hb, Bool.true_and, aj2]
    have hn : l.find? (fun x => cq x.Entry k && dk p t x b) = none := by
     rw [List.find?_eq_none]
     intro x hx hc
     simp only [Bool.and_eq_true] at hc
     have hB := (yr p t x b).1 hc.2
     rw [hl] at hx
     rcases List.mem_append.1 hx with hx | hx
     ·have := h1 x hx hc.1
      unfold Bf at *; omega
     ·rcases List.mem_cons.1 hx with rfl | hx
      ·unfold Bf at hB; omega
      ·exact h2 x hx hc.1 hB
    rw [hn]
    rfl
   ·cases hm : cq x.Entry k
    ·simp
    ·rw [beat p t k hbl hb (h1 x hx hm)]
     simp
  rw [hf]
end
theorem bp1 (x : av) : ∀ (m : Nat) (i : Int), jc x x (fun _ => true) m i = true
 | 0, i => rfl
 | m + 1, i => by
   rw [jc, if_neg (by simp)]
   exact bp1 x m _
theorem bd1 (x : ax) : ∀ (m : Nat) (i : Int), jg x x (fun _ => true) m i = true
 | 0, i => rfl
 | m + 1, i => by
   rw [jg, if_neg (by simp)]
   exact bd1 x m _
theorem am4 (r : ak) : rh r r = true := by
 unfold rh td ly oc
 simp only [LET]
 rw [if_neg (by simp), if_neg (by simp), bp1, bd1]
 simp
theorem bf1 {α β : Type} [Inhabited α] [Inhabited β] (f : α → β) {l : List α} {i : Int} (h0 : 0 ≤ i) (h1 : i < l.length) : ix (l.map f) i = f (ix l i) := by
 rw [px h0 (by simpa using h1), px h0 h1, List.getElem_map]
theorem se {α : Type} [Inhabited α] {l : List α} {a : α} : a ∈ l ↔ ∃ j : Int, 0 ≤ j ∧ j < l.length ∧ ix l j = a := by
 constructor
 ·intro h
  obtain ⟨k, hk, rfl⟩ := List.getElem_of_mem h
  exact ⟨k, by omega, by omega, bv8 hk⟩
 ·rintro ⟨j, h0, h1, rfl⟩
  rw [px h0 h1]; exact List.getElem_mem _
theorem bs7 {l : List ak} {q : ak → Bool} {i : Int} (h0 : 0 ≤ i) (h1 : i ≤ l.length) : (da (l.take i.toNat) q).2 = true ↔ ∃ j : Int, 0 ≤ j ∧ j < i ∧ q (ix l j) = true := by
 rw [aj2]
 constructor
 ·intro h
  cases hf : (l.take i.toNat).find? q with
  | none => rw [hf] at h; cases h
  | some r =>
    have h2 := List.find?_some hf
    obtain ⟨k, hk, e⟩ := List.getElem_of_mem (List.mem_of_find?_eq_some hf)
    rw [List.length_take] at hk
    rw [List.getElem_take] at e
    exact ⟨k, by omega, by omega, by rw [bv8 (by omega), e]; exact h2⟩
 ·rintro ⟨j, h2, h3, h4⟩
  cases hf : (l.take i.toNat).find? q with
  | some r => rfl
  | none =>
    exfalso
    refine List.find?_eq_none.1 hf (ix l j) ?_ h4
    rw [px h2 (by omega)]
    exact List.mem_take_iff_getElem.2 ⟨j.toNat, by rw [Nat.lt_min]; omega, rfl⟩
def Clash (l : List ak) (j i : Int) : Prop := (ix l j).ID = (ix l i).ID ∨ ly (ix l j).Entry (ix l i).Entry = true
theorem bf4 (l : List ak) (i : Int) (K : Unit → Int) : ∀ (m : Nat) (j : Int), m = Int.toNat (i - j) → ((∃ k, j ≤ k ∧ k < i ∧ Clash l k i) ∧ qc l i K m j = 7) ∨ ((∀ k, j ≤ k → k < i → ¬Clash l k i) ∧ qc l i K m j = K ())
 | 0, j, hm => .inr ⟨fun k h1 h2 => by omega, rfl⟩
 | m + 1, j, hm => by
   rw [qc]
   by_cases h : Clash l j i
   ·left
    refine ⟨⟨j, by omega, by omega, h⟩, if_pos ?_⟩
    simpa [Clash] using h
   ·rw [if_neg (by simpa [Clash] using h)]
    rcases bf4 l i K m (j + 1) (by omega) with ⟨⟨k, h1, h2, h3⟩, e⟩ | ⟨h1, e⟩
    ·exact .inl ⟨⟨k, by omega, h2, h3⟩, e⟩
    ·refine .inr ⟨fun k h2 h3 => ?_, e⟩
     by_cases hk : k = j
     ·subst hk; exact h
     ·exact h1 k (by omega) h3
theorem bp8 (p : aa) (t : Int) (l : List ak) : ∀ (m : Nat) (i : Int) (z : List (Int × Bool)), m = Int.toNat ((l.length : Int) - i) → 0 ≤ i → i ≤ l.length → Seen (l.map (·.ID)) i z → newL p t l m i z = lh p t l (fun _ => 0) m i
 | 0, i, z, hm, h0, h1, hz => rfl
 | m + 1, i, z, hm, h0, h1, hz => by
   have hlt : i < (l.length : Int) := by omega
   have ih := bp8 p t l m (i + 1) (mput z (ix l i).ID true) (by omega) (by omega) (by omega) (by have := hz.step h0; rwa [bf1 _ h0 hlt] at this)
   rw [newL, lh, bu4]
   simp only [LET]
   split
   ·rfl
   ·have hc : ((da (l.take i.toNat) fun x => jp x.Entry (ix l i).Entry).2 || (mget z (ix l i).ID).getD false) = true ↔ ∃ k, 0 ≤ k ∧ k < i ∧ Clash l k i := by
     rw [Bool.or_eq_true, bs7 h0 (by omega), hz]
     constructor
     ·rintro (⟨j, h2, h3, h4⟩ | ⟨j, h2, h3, h4⟩)
      ·exact ⟨j, h2, h3, .inr (by rw [← SameKey_eq]; exact h4)⟩
      ·rw [bf1 _ h2 (by omega)] at h4
       exact ⟨j, h2, h3, .inl h4⟩
     ·rintro ⟨j, h2, h3, h4 | h4⟩
      ·exact .inr ⟨j, h2, h3, by rw [bf1 _ h2 (by omega)]; exact h4⟩
      ·exact .inl ⟨j, h2, h3, by rw [SameKey_eq]; exact h4⟩
    rcases bf4 l i (fun _ => lh p t l (fun _ => 0) m (i + 1)) (Int.toNat (i - 0)) 0 rfl with ⟨h2, e⟩ | ⟨h2, e⟩
    ·rw [if_pos (hc.2 h2), e]
    ·rw [if_neg (fun h => by obtain ⟨k, h3, h4, h5⟩ := hc.1 h; exact h2 k h3 h4 h5), e, ih]
theorem br5 (p : aa) (t : Int) (l : List ak) : newE p t l = oh p t l := by
 unfold newE oh
 simp only [LET]
 rw [Check_eq]
 split
 ·rfl
 ·rw [bp8 p t l l.length 0 [] (by omega) (by omega) (by omega) (fun a => by simp [mget]; intro j h1 h2; omega)]
  simp
structure GoodR (p : aa) (t : Int) (l : List ak) : Prop where
 tc : (gn p t).2 = 0
 rc : ∀ i : Int, 0 ≤ i → i < l.length → ol p t (ix l i).Entry = 0
 ds : ∀ j i : Int, 0 ≤ j → j < i → i < l.length → ¬Clash l j i
theorem bn8 (p : aa) (t : Int) (l : List ak) : ∀ (m : Nat) (i : Int), m = Int.toNat ((l.length : Int) - i) → 0 ≤ i → (lh p t l (fun _ => 0) m i = 0 ↔ ∀ k : Int, i ≤ k → k < l.length → ol p t (ix l k).Entry = 0 ∧ ∀ j, 0 ≤ j → j < k → ¬Clash l j k)
 | 0, i, hm, h0 => ⟨fun _ k h1 h2 => by omega, fun _ => rfl⟩
 | m + 1, i, hm, h0 => by
   rw [lh]
   simp only [LET]
   have ih := bn8 p t l m (i + 1) (by omega) (by omega)
   by_cases hc : ol p t (ix l i).Entry = 0
   ·rw [if_neg (by simp [hc])]
    rcases bf4 l i (fun _ => lh p t l (fun _ => 0) m (i + 1)) (Int.toNat (i - 0)) 0 rfl with ⟨⟨k, h2, h3, h4⟩, e⟩ | ⟨h2, e⟩
    ·rw [e]
     exact ⟨fun h => by omega, fun h => absurd h4 ((h i (by omega) (by omega)).2 k h2 h3)⟩
    ·rw [e, ih]
     constructor
     ·intro h k h3 h4
      by_cases hk : k = i
      ·subst hk; exact ⟨hc, h2⟩
      ·exact h k (by omega) h4
     ·intro h k h3 h4
      exact h k (by omega) h4
   ·rw [if_pos (by simp [hc])]
    exact ⟨fun h => absurd h hc, fun h => absurd (h i (by omega) (by omega)).1 hc⟩
theorem ad5 (p : aa) (t : Int) (l : List ak) : oh p t l = 0 ↔ GoodR p t l := by
 unfold oh
 simp only [LET]
 by_cases hc : (gn p t).2 = 0
 ·rw [if_neg (by simp [hc]), bn8 p t l _ 0 rfl (by omega)]
  exact ⟨fun h => ⟨hc, fun i h1 h2 => (h i h1 h2).1, fun j i h1 h2 h3 => (h i (by omega) h3).2 j h1 h2⟩, fun h k h1 h2 => ⟨h.rc k h1 h2, fun j h3 h4 => h.ds j k h3 h4 h2⟩⟩
 ·rw [if_pos (by simp [hc])]
  exact ⟨fun h => absurd h hc, fun h => absurd h.tc hc⟩
theorem an1 (x : av) (k : List (BitVec 32)) : ∀ (m : Nat) (i : Int), m = Int.toNat ((x.Keys.length : Int) - i) → 0 ≤ i → (iy x k (fun _ => true) m i = true ↔ ∀ j : Int, i ≤ j → j < x.Keys.length → (ix k j ^^^ (ix x.Keys j).Value) &&& (ix x.Keys j).Mask = 0#32)
 | 0, i, hm, h0 => ⟨fun _ j h1 h2 => by omega, fun _ => rfl⟩
 | m + 1, i, hm, h0 => by
   rw [iy]
   have ih := an1 x k m (i + 1) (by omega) (by omega)
   by_cases hc : (ix k i ^^^ (ix x.Keys i).Value) &&& (ix x.Keys i).Mask = 0#32
   ·rw [if_neg (by simp [hc]), ih]
    constructor
    ·intro h j h1 h2
     by_cases hj : j = i
     ·subst hj; exact hc
     ·exact h j (by omega) h2
    ·intro h j h1 h2; exact h j (by omega) h2
   ·rw [if_pos (by simp [hc])]
    exact ⟨fun h => (by cases h), fun h => absurd (h i (by omega) (by omega)) hc⟩
theorem ay4 (x : av) (k : List (BitVec 32)) : cq x k = true ↔ k.length = x.Keys.length ∧ ∀ j : Int, 0 ≤ j → j < x.Keys.length → (ix k j ^^^ (ix x.Keys j).Value) &&& (ix x.Keys j).Mask = 0#32 := by
 unfold cq
 by_cases hl : k.length = x.Keys.length
 ·rw [if_neg (by simp [hl]), an1 x k _ 0 (by omega) (by omega)]
  exact ⟨fun h => ⟨hl, h⟩, fun h => h.2⟩
 ·rw [if_pos (by simp; omega)]
  exact ⟨fun h => (by cases h), fun h => absurd h.1 hl⟩
theorem bo1 (p : aa) (t : Int) (x : av) (w : List Int) (K : Unit → Int) : ∀ (m : Nat) (i : Int), m = Int.toNat ((w.length : Int) - i) → 0 ≤ i → od p t x w K m i = 0 → K () = 0 ∧ ∀ j : Int, i ≤ j → j < w.length → mm (ix x.Keys j) (ix w j) (ix (ix p.Tables t).Keys j).Kind = 0
 | 0, i, hm, h0, h => ⟨h, fun j h1 h2 => by omega⟩
 | m + 1, i, hm, h0, h => by
   rw [od] at h
   simp only [LET] at h
   split at h
   ·rename_i hc
    simp at hc
    exact absurd h hc
   ·rename_i hc
    simp only [Bool.not_eq_true', decide_eq_false_iff_not, Decidable.not_not] at hc
    obtain ⟨h1, h2⟩ := bo1 p t x w K m (i + 1) (by omega) (by omega) h
    refine ⟨h1, fun j h3 h4 => ?_⟩
    by_cases hj : j = i
    ·subst hj; exact hc
    ·exact h2 j (by omega) h4
structure RowG (p : aa) (t : Int) (x : av) : Prop where
 n : x.Keys.length = (ix p.Tables t).Keys.length
 k : ∀ j : Int, 0 ≤ j → j < x.Keys.length → mm (ix x.Keys j) (ix (bp p t) j) (ix (ix p.Tables t).Keys j).Kind = 0
 pr : uo p t ≠ 3 → x.Priority = 0
theorem ck8 {p : aa} {t : Int} {x : av} (h : ol p t x = 0) : RowG p t x := by
 unfold ol at h
 simp only [LET] at h
 split at h
 ·rename_i hc
  simp at hc
  exact absurd h hc
 ·rename_i hc
  simp only [Bool.not_eq_true', decide_eq_false_iff_not, Decidable.not_not] at hc
  have hw := (reck rfl hc rfl).2
  split at h
  ·omega
  ·rename_i hl
   simp only [Bool.not_eq_true', decide_eq_false_iff_not, Decidable.not_not] at hl
   obtain ⟨h1, h2⟩ := bo1 p t x _ _ _ 0 rfl (by omega) h
   refine ⟨by omega, fun j h3 h4 => h2 j h3 (by omega), fun hk => ?_⟩
   split at h1
   ·omega
   ·rename_i hp
    simp only [Bool.or_eq_true, decide_eq_true_eq, not_or] at hp
    split at h1
    ·omega
    ·rename_i hq
     simp [hk] at hq
     omega
structure KeyG (m : bb) (w kd : Int) : Prop where
 f : mh m.Value w = true
 g : mh m.Mask w = true
 v : m.Value &&& m.Mask = m.Value
 e : kd = 1 → m.Mask = qd w
 l : kd = 2 → (pe m.Mask w).2 = true
theorem ch6 {m : bb} {w kd : Int} (h : mm m w kd = 0) : KeyG m w kd := by
 unfold mm at h
 simp only [LET] at h
 split at h
 ·omega
 ·rename_i h1
  split at h
  ·omega
  ·rename_i h2
   split at h
   ·omega
   ·rename_i h3
    simp only [Bool.or_eq_true, Bool.not_eq_true', not_or, Bool.not_eq_false] at h1
    simp only [Bool.not_eq_true', decide_eq_false_iff_not, Decidable.not_not] at h2
    refine ⟨h1.1, h1.2, h2, fun hk => ?_, fun hk => ?_⟩
    ·apply Decidable.byContradiction
     intro hn
     exact h3 (by simp [hk, hn])
    ·apply Decidable.byContradiction
     intro hn
     exact h3 (by simp [hk, hn])
end Go.Proofs.YthdnpgpnodgicaaGreat
