import Derived.Test.YtmonnlkagniolaaGreatPbC
import Derived.Sort.Grow
import Derived.Test.YtmonnlkagniolaaGreatPbK
set_option linter.unusedVariables false
set_option linter.unusedSimpArgs false
namespace Go.Pb
open Go Go.RowKit
section
variable {P : Program} {S : List Fr} {Q : Post} {E : TEnv} {h : Heap} {hf : Bool} {L : List Ent} {r : List AOper} {ty : TypeId} {sz : Nat}
theorem RelP.cut {w0 : World} {F0 : Nat → Prop} {x : Cx} (R : RelP P w0 F0 h x) {id ver m : Nat} {t : TypeId} {cs : List PV} (hb : h.bl[id]? = some (.cells ver t true cs)) : RelP P w0 F0 (hput h id (.cells ver t true (cs.take m))) x := by
 have hset : ∀ (k : Nat) blk, (h.bl.set id (.cells ver t true (cs.take m)))[k]? = some blk → ∃ blk', h.bl[k]? = some blk' ∧ blk'.ver = blk.ver ∧ (blk = blk' ∨ (k = id ∧ blk = .cells ver t true (cs.take m))) := fun k blk hk => by
  rcases wl k blk hk with ⟨rfl, rfl⟩ | ⟨hne, hk'⟩
  ·exact ⟨_, hb, rfl, .inr ⟨rfl, rfl⟩⟩
  ·exact ⟨blk, hk', rfl, .inl rfl⟩
 refine ⟨R.below, R.f0, R.fsub, R.fnew, R.own, R.fresh, fun id1 id2 b1 b2 b h1 h2 h3 h4 => ?_, fun k blk hk => ?_⟩
 ·obtain ⟨c1, e1, v1, _⟩ := hset id1 b1 h1
  obtain ⟨c2, e2, v2, _⟩ := hset id2 b2 h2
  exact R.inj id1 id2 c1 c2 b e1 e2 (by rw [v1]; exact h3) (by rw [v2]; exact h4)
 ·obtain ⟨c1, e1, v1, hc⟩ := hset k blk hk
  rcases hc with rfl | ⟨rfl, rfl⟩
  ·exact R.hr k _ e1
  ·intro b hj
   obtain ⟨⟨cur, h5, h6, h7⟩, h8⟩ := R.hr k _ hb b hj
   refine ⟨⟨cur, h5, by simp; omega, ?_⟩, h8⟩
   have := VRL_take m h7
   rw [List.take_take] at this
   rw [List.length_take]
   exact this
def cpF {α : Type} [Inhabited α] [DecidableEq α] (l : List α) : Nat → List α
 | 0 => []
 | m + 1 => cpF l m ++ (if m = 0 ∨ ix l (m : Int) ≠ ix l ((m : Int) - 1) then [ix l (m : Int)] else [])
def cpt {α : Type} [Inhabited α] [DecidableEq α] (l : List α) : List α := cpF l l.length
end
end Go.Pb
set_option linter.unusedVariables false
set_option linter.unusedSimpArgs false
namespace Go.Pb
open Go Go.RowKit
theorem qa : (∀ a b : Bool, ((a || b) = true) = (a = true ∨ b = true)) ∧ (∀ a b : Bool, (a || b) = false ↔ a = false ∧ b = false) ∧ (∀ a b : Bool, ((a && b) = true) = (a = true ∧ b = true)) ∧ (∀ a b : Bool, (a && b) = false ↔ (a = true → b = false)) ∧ (∀ (p : Prop) [Decidable p], (decide p = true) = p) ∧ (∀ (p : Prop) [Decidable p], decide p = false ↔ ¬p) ∧ (∀ a : Bool, ((!a) = true) = (a = false)) ∧ (∀ a : Bool, ((!a) = false) = (a = true)) ∧ (∀ a : Bool, (¬a = true) = (a = false)) ∧ (∀ a : Bool, (¬a = false) = (a = true)) ∧ ((!true) = false) ∧ ((!false) = true) ∧ (∀ n : Nat, Int.ofNat n = (n : Int)) ∧ (∀ n : Nat, Int.negSucc n = -((n : Int) + 1)) ∧ (∀ (α : Type) (a b : α), (a ≠ b) = ¬a = b) :=
 ⟨Bool.or_eq_true, fun _ _ => Bool.or_eq_false_iff, Bool.and_eq_true, fun _ _ => Bool.and_eq_false_imp, fun _ _ => decide_eq_true_eq, fun _ _ => decide_eq_false_iff_not, Bool.not_eq_true', Bool.not_eq_false', Bool.not_eq_true, Bool.not_eq_false, rfl, rfl, fun _ => rfl, fun _ => Int.negSucc_eq _, fun _ a b => ne_eq a b⟩
theorem sB {E : TEnv} : ∀ {E0 : TEnv}, E0.map (fun p => look p.1 E) = E0.map (fun p => some p.2) → SubE E E0
 | [], _ => cj8 E
 | (d, v) :: r, h => by
   simp only [List.map_cons, List.cons.injEq] at h
   exact ul h.1 (sB h.2)
def cO (P : Program) (own : List Tmp) (n : Nat) (f : Func) : AC := (compC P own n (f.body.getD .skip)).getD .skip
def loops : AC → List AC
 | .seq a b => loops a ++ loops b
 | .cond _ a b => loops a ++ loops b
 | .block _ b => loops b
 | .scope b => loops b
 | .loop b => b :: loops b
 | _ => []
def lP (k : Nat) (c : AC) : AC := (loops c).getD k .skip
abbrev rdc (c w : AC) (h : c = w) : AC := w
theorem tX {P : Program} {f : FuncId} {own : List Tmp} {n np : Nat} {ac : AC} {rs : List (Tmp × Option (Nat × Bool))} {fn : Func} (e : Enters P f) (fo : P.follows .mixedOrders = true) (h : P.funcs[f]? = some fn)
 (hb : fn.body = some (fn.body.getD .skip)) (hn : fn.ntmps = n) (hp : np ≤ n) (hc : compC P own n (fn.body.getD .skip) = some ac) (hr : compRes P fn.results.toList = some rs) : FnText P f own n np ac rs :=
 ⟨e, fo, fn, _, h, hb, hn, hp, hc, hr⟩
section
variable {P : Program} {S : List Fr} {Q : Post} {E E0 : TEnv} {h h' : Heap} {op : AOp} {hf hf2 : Bool} {v : PV} {r l : List AOper} {d d2 t : Nat} {f : Operand} {args : List Operand} {w b : Bool}
theorem wC {c : AC} (k : RC P c S Q E0 h) (s : E0.map (fun p => look p.1 E) = E0.map (fun p => some p.2)) : RC P c S Q E h := xa (sB s) k
theorem wP {id : Nat} (k : PX P id S Q E0 h) (s : E0.map (fun p => look p.1 E) = E0.map (fun p => some p.2)) : PX P id S Q E h := cy7 (sB s) k
theorem wD {l : List AOper} (k : RD P l S Q E0 h) (s : E0.map (fun p => look p.1 E) = E0.map (fun p => some p.2)) : RD P l S Q E h := an4 (sB s) k
theorem bt {α : Type} {c : Operand} {a b : AC} {v : Bool} {x y r : α} (hres : (if v = true then x else y) = r) (hc : evE E c = some (vb v)) (h1 : v = true → x = r → RC P a S Q E h) (h2 : v = false → y = r → RC P b S Q E h) : RC P (.cond c a b) S Q E h :=
 cw hc (fun e => h1 e ((db1 e).symm.trans hres)) (fun e => h2 e ((db7 e).symm.trans hres))
theorem fnS {f : FuncId} {own : List Tmp} {n np : Nat} {ac : AC} {rs : List (Tmp × Option (Nat × Bool))} {args : List PV} {α : Type} {e : α} {v : PV} {R : α → PV → Prop} (X : FnText P f own n np ac rs)
 (hr : ∀ r, R e r → r = v) (hn : Nat.ble args.length np = true) (H : ∀ res, e = res → RC P ac [] (QR P rs (R res)) (argE 0 args) ⟨0, []⟩) : FnR P f args v := by
 obtain ⟨r, h1, h2⟩ := fnE X (Nat.le_of_ble_eq_true hn) (H e rfl)
 rw [← hr r h2]; exact h1
theorem fnT {f : FuncId} {own : List Tmp} {n np : Nat} {ac : AC} {rs : List (Tmp × Option (Nat × Bool))} {args : List PV} {α : Type} {e : α} {R : α → PV → Prop} (X : FnText P f own n np ac rs)
 (hn : Nat.ble args.length np = true) (H : ∀ res, e = res → RC P ac [] (QR P rs (R res)) (argE 0 args) ⟨0, []⟩) : ∃ r, FnR P f args r ∧ R e r := fnE X (Nat.le_of_ble_eq_true hn) (H e rfl)
theorem fnXX {f : FuncId} {own : List Tmp} {n np : Nat} {ac : AC} {rs : List (Tmp × Option (Nat × Bool))} {args : List PV} {α : Type} {e : α} {R : α → PV → Heap → Prop} (X : FnText P f own n np ac rs)
 (hn : Nat.ble args.length np = true) (H : ∀ res, e = res → RC P ac [] (retPost P rs (R res)) (argE 0 args) h) : ∃ r h', FnX P f args h r h' ∧ R e r h' := fnX X (Nat.le_of_ble_eq_true hn) (H e rfl)
theorem aL {α : Type} {R : α → PV → Prop} : All2 R [] [] := trivial
theorem rR {α : Type} {t : Tmp} {R : α → PV → Prop} {e res : α} {v : PV} (hres : e = res) (hv : look t E = some v) (hc : closed v = true) (hr : R e v) : RC P .ret S (QR P [(t, none)] (R res)) E h := by
 subst hres; exact dw (.tmp hv .nil) (cd hc) hr
theorem rT {α : Type} {t t' : Tmp} {R : α → PV → Prop} {e res : α} {v v' : PV} (hres : e = res) (hv : look t E = some v) (hv' : look t' E = some v') (hc : closed v = true) (hc' : closed v' = true) (hr : R e (.tup [v, v'])) : RC P .ret S (QR P [(t, none), (t', none)] (R res)) E h := by
 subst hres; exact dw (.tmp hv (.tmp hv' .nil)) (cd (show closed (.tup _) = true from ab hc (ab hc' ay))) hr
theorem sR {d : Bool} {al : List AOper} {b : AC} (k : RD P al (.seq b :: S) Q E h) : RC P (.seq (.region d al) b) S Q E h := au (bb k)
theorem nS {b : AC} (k : RC P b S Q E h) : RD P [] (.seq b :: S) Q E h := k
theorem nR {d : Bool} {al : List AOper} {b : AC} (k : RD P al (.seq b :: S) Q E h) : RD P [] (.seq (.seq (.region d al) b) :: S) Q E h := cf (aq (sR k))
theorem mV {x : Operand} {a : PV} (ex : evE E x = some a) (k : RD P r S Q ((d, a) :: E) h) : RD P (⟨some d, .move x, none, hf⟩ :: r) S Q E h := ae (ax ex) k
theorem mI {x : Operand} {n : Int} (ex : evE E x = some (vi n)) (k : RD P r S Q ((d, vi n) :: E) h) : RD P (⟨some d, .move x, none, hf⟩ :: r) S Q E h := ae (ax ex) k
theorem mB {x : Operand} {n : Bool} (ex : evE E x = some (vb n)) (k : RD P r S Q ((d, vb n) :: E) h) : RD P (⟨some d, .move x, none, hf⟩ :: r) S Q E h := ae (ax ex) k
theorem bN {op : BinOp} {t : TypeId} {x y : Operand} {a b v : PV} (hb : binF P op t x y a b = some v) (ex : evE E x = some a) (ey : evE E y = some b) (k : RD P r S Q ((d, v) :: E) h) : RD P (⟨some d, .bin op t x y, none, hf⟩ :: r) S Q E h := ae (bp ex ey hb) k
theorem xT {x : Operand} {vs : List PV} {k : Nat} {v : PV} (ex : evE E x = some (.tup vs)) (hk : vs[k]? = some v) (K : RD P r S Q ((d, v) :: E) h) : RD P (⟨some d, .extract x k, none, hf⟩ :: r) S Q E h := ae (yf ex hk) K
theorem fA {x : Operand} {a w : PV} {off sz : Nat} {agg : Bool} (ex : evE E x = some (.fp a)) (hw : fieldR off sz agg a = some w) (k : RD P r S Q ((d, .fp w) :: E) h) : RD P (⟨some d, .faddr off sz agg x, none, hf⟩ :: r) S Q E h := ae (br ex hw) k
theorem lD {α : Type} {t : TR α} {s : α} {a : PV} {x : Operand} {sz : Nat} {agg : Bool} (q : t.R s a) (ex : evE E x = some (.fp a)) (h1 : t.sz = sz) (h2 : t.ag = agg) (k : RD P r S Q ((d, a) :: E) h) : RD P (⟨some d, .load sz agg x, none, hf⟩ :: r) S Q E h := ae (bq ex (by rw [TR.cnt t q, h1]) (by rw [TR.agg t q, h2])) k
theorem lR {a : PV} {x : Operand} {sz : Nat} {agg : Bool} (ex : evE E x = some (.fp a)) (h1 : cnt a = some sz) (h2 : a.isAgg = agg) (k : RD P r S Q ((d, a) :: E) h) : RD P (⟨some d, .load sz agg x, none, hf⟩ :: r) S Q E h := ae (bq ex h1 h2) k
theorem fL {x : Operand} {a w : PV} {off sz sz2 : Nat} {agg agg2 : Bool} (ex : evE E x = some (.fp a)) (hw : fieldR off sz agg a = some w) (h1 : cnt w = some sz2) (h2 : w.isAgg = agg2) (k : RD P r S Q ((d2, w) :: (d, .fp w) :: E) h) : RD P (⟨some d, .faddr off sz agg x, none, hf⟩ :: ⟨some d2, .load sz2 agg2 (.tmp d), none, hf2⟩ :: r) S Q E h :=
 ae (br ex hw) (ae (bq (by simp only [evE, look, Nat.beq_refl, cond_true]) h1 h2) k)
theorem gL {β : Type} {t : TR β} {y : β} {x : Operand} {a : PV} {off sz sz2 : Nat} {agg agg2 : Bool} (g : ∃ w, fieldR off sz agg a = some w ∧ t.R y w) (ex : evE E x = some (.fp a)) (h1 : t.sz = sz2) (h2 : t.ag = agg2) (k : ∀ w, t.R y w → RD P r S Q ((d2, w) :: (d, .fp w) :: E) h) : RD P (⟨some d, .faddr off sz agg x, none, hf⟩ :: ⟨some d2, .load sz2 agg2 (.tmp d), none, hf2⟩ :: r) S Q E h := by
 obtain ⟨w, e, q⟩ := g
 exact fL ex e (by rw [TR.cnt t q, h1]) (by rw [TR.agg t q, h2]) (k w q)
theorem cL {g : FuncId} {a1 : List PV} {v : PV} (hfn : FnR P g a1 v) (ef : evE E f = some (.fn (.func g) [] [])) (ea : evL E args = some a1) (hc : closedL a1 = true) (k : RD P r S Q ((d, v) :: E) h) : RD P (⟨some d, .call f args, none, hf⟩ :: r) S Q E h := rp (qq ef ea hc hfn) k
theorem bw (n : Nat) {d : Nat} {v : PV} (H : ∀ (S : List Fr) (Q : Post) (r : List AOper), RD P r S Q ((d, v) :: E) h → RD P (l.take n ++ r) S Q E h) (k : RD P (l.drop n) S Q ((d, v) :: E) h) : RD P l S Q E h := by
 rw [← List.take_append_drop n l]; exact H S Q _ k
theorem gK {c x y : Operand} {u a b v : PV} (ec : evE E c = some u) (ex : evE E x = some a) (ey : evE E y = some b) (hp : pickR u a b = some v) (s : E0.map (fun p => look p.1 ((d, v) :: E)) = E0.map (fun p => some p.2)) (k : RD P r S Q E0 h) : RD P (⟨some d, .pick c x y, none, hf⟩ :: r) S Q E h :=
 ae (ob ec ex ey hp) (an4 (sB s) k)
def skipE : Nat → TEnv → List AOper → Option (TEnv × List AOper)
 | 0, E, l => some (E, l)
 | n + 1, E, ⟨some d, op, some (t, w), hf⟩ :: r => match look t E with
   | some (.sc (.bool b)) => if b = w then none else skipE n ((d, .tup []) :: E) r
   | some (.tup []) => skipE n ((d, .tup []) :: E) r
   | _ => none
 | _, _, _ => none
theorem skips : ∀ (n : Nat) {E E1 : TEnv} {l l1 : List AOper}, skipE n E l = some (E1, l1) → RD P l1 S Q E1 h → RD P l S Q E h
 | 0, E, E1, l, l1, e, k => by simp only [skipE, Option.some.injEq, Prod.mk.injEq] at e; obtain ⟨rfl, rfl⟩ := e; exact k
 | n + 1, E, E1, [], l1, e, k => by simp [skipE] at e
 | n + 1, E, E1, ⟨none, op, g, hf⟩ :: r, l1, e, k => by simp [skipE] at e
 | n + 1, E, E1, ⟨some d, op, none, hf⟩ :: r, l1, e, k => by simp [skipE] at e
 | n + 1, E, E1, ⟨some d, op, some (t, w), hf⟩ :: r, l1, e, k => by
   simp only [skipE] at e
   split at e
   ·rename_i b hb
    split at e
    ·cases e
    ·rename_i hne
     refine lh hb ?_ (skips n e k)
     cases b <;> cases w <;> simp_all
   ·rename_i hb
    exact by1 hb (skips n e k)
   ·cases e
theorem gN (n : Nat) {E1 : TEnv} {c x y : Operand} {u a b v : PV} (e : skipE n E l = some (E1, ⟨some d, .pick c x y, none, hf⟩ :: r)) (ec : evE E1 c = some u) (ex : evE E1 x = some a) (ey : evE E1 y = some b) (hp : pickR u a b = some v) (s : E0.map (fun p => look p.1 ((d, v) :: E1)) = E0.map (fun p => some p.2)) (k : RD P r S Q E0 h) : RD P l S Q E h :=
 skips n e (gK ec ex ey hp s k)
end
end Go.Pb
set_option linter.unusedVariables false
set_option linter.unusedSimpArgs false
namespace Go.Pb
open Go Go.RowKit
section
variable {P : Program} {h : Heap}
theorem Mem.perm {L L' : List Ent} (M : Mem h L) (p : L.Perm L') : Mem h L' :=
 ⟨fun e he => M.ent e (p.mem_iff.2 he), (p.pairwise_iff fun {a b} hab => hab.symm).1 M.dis⟩
structure NsE {α : Type} (t : TR α) (ty : TypeId) (l : List α) (v : PV) (e : Ent) : Prop where
 ad : e.v = v
 ty : e.ty = ty
 sz : e.sz = t.sz
 el : All2 t.R l e.es
 isl : isL v = true
 len : l.length ≤ 4611686018427387904
 wri : Wri v e.es
def Ns {α : Type} (t : TR α) (ty : TypeId) : List (List α) → List PV → List Ent → Prop
 | [], [], [] => True
 | l :: ls, v :: vs, e :: es => NsE t ty l v e ∧ Ns t ty ls vs es
 | _, _, _ => False
section
variable {α : Type} {t : TR α} {ty : TypeId}
theorem Ns.len : ∀ {ls : List (List α)} {vs : List PV} {I : List Ent}, Ns t ty ls vs I → vs.length = ls.length ∧ I.length = ls.length
 | [], [], [], _ => ⟨rfl, rfl⟩
 | l :: ls, v :: vs, e :: es, h => by have := Ns.len h.2; exact ⟨by simp [this.1], by simp [this.2]⟩
 | [], [], _ :: _, h => by simp [Ns] at h
 | [], _ :: _, _, h => by simp [Ns] at h
 | _ :: _, [], _, h => by simp [Ns] at h
 | _ :: _, _ :: _, [], h => by simp [Ns] at h
theorem Ns.get : ∀ {ls : List (List α)} {vs : List PV} {I : List Ent} {k : Nat} (_ : Ns t ty ls vs I) (hk : k < ls.length), ∃ v e, vs[k]? = some v ∧ I[k]? = some e ∧ NsE t ty ls[k] v e
 | l :: ls, v :: vs, e :: es, 0, h, _ => ⟨v, e, rfl, rfl, h.1⟩
 | l :: ls, v :: vs, e :: es, k + 1, h, hk => by
   obtain ⟨w, f, h1, h2, h3⟩ := Ns.get (k := k) h.2 (by simpa using hk)
   exact ⟨w, f, by simpa using h1, by simpa using h2, by simpa using h3⟩
 | [], _, _, _, _, hk => by simp at hk
 | _ :: _, [], _, _, h, _ => by simp [Ns] at h
 | _ :: _, _ :: _, [], _, h, _ => by simp [Ns] at h
theorem Ns.set : ∀ {ls : List (List α)} {vs : List PV} {I : List Ent} {k : Nat} {l : List α} {v : PV} {e : Ent}, Ns t ty ls vs I → NsE t ty l v e → Ns t ty (ls.set k l) (vs.set k v) (I.set k e)
 | [], [], [], _, _, _, _, _, _ => trivial
 | l :: ls, v :: vs, e :: es, 0, _, _, _, h, he => ⟨he, h.2⟩
 | l :: ls, v :: vs, e :: es, k + 1, _, _, _, h, he => ⟨h.1, Ns.set h.2 he⟩
 | [], [], _ :: _, _, _, _, _, h, _ => by simp [Ns] at h
 | [], _ :: _, _, _, _, _, _, h, _ => by simp [Ns] at h
 | _ :: _, [], _, _, _, _, _, h, _ => by simp [Ns] at h
 | _ :: _, _ :: _, [], _, _, _, _, h, _ => by simp [Ns] at h
theorem Ns.app1 : ∀ {ls : List (List α)} {vs : List PV} {I : List Ent} {l : List α} {v : PV} {e : Ent}, Ns t ty ls vs I → NsE t ty l v e → Ns t ty (ls ++ [l]) (vs ++ [v]) (I ++ [e])
 | [], [], [], _, _, _, _, he => ⟨he, trivial⟩
 | l :: ls, v :: vs, e :: es, _, _, _, h, he => ⟨h.1, Ns.app1 h.2 he⟩
 | [], [], _ :: _, _, _, _, h, _ => by simp [Ns] at h
 | [], _ :: _, _, _, _, _, h, _ => by simp [Ns] at h
 | _ :: _, [], _, _, _, _, h, _ => by simp [Ns] at h
 | _ :: _, _ :: _, [], _, _, _, h, _ => by simp [Ns] at h
theorem dh9 (n : Nat) : Ns t ty (List.replicate n ([] : List α)) (List.replicate n nilS) (List.replicate n ⟨nilS, ty, t.sz, []⟩) := by
 induction n with
 | zero => trivial
 | succ n ih => exact ⟨⟨rfl, rfl, rfl, trivial, rfl, by simp, .inl rfl⟩, ih⟩
theorem aw1 {L : List Ent} (M : Mem h L) (ty : TypeId) (sz : Nat) : ∀ n, Mem h (List.replicate n ⟨nilS, ty, sz, []⟩ ++ L)
 | 0 => M
 | n + 1 => mm (aw1 M ty sz n) ty (.inl ⟨none, rfl, rfl⟩) (by simp)
theorem dq2 {C R : List Ent} (M : Mem h (C ++ R)) (ty : TypeId) (sz n : Nat) : Mem h (C ++ (List.replicate n ⟨nilS, ty, sz, []⟩ ++ R)) :=
 (aw1 M ty sz n).perm (by rw [← List.append_assoc, ← List.append_assoc]; exact List.Perm.append_right R List.perm_append_comm)
theorem ay5 {I : List Ent} {k : Nat} {e : Ent} (hk : I[k]? = some e) : I.Perm (e :: I.eraseIdx k) := by
 obtain ⟨hlt, rfl⟩ := List.getElem?_eq_some_iff.1 hk
 have h1 : I = I.take k ++ I[k] :: I.drop (k + 1) := by rw [← List.drop_eq_getElem_cons hlt, List.take_append_drop]
 have h2 : I.eraseIdx k = I.take k ++ I.drop (k + 1) := List.eraseIdx_eq_take_drop_succ ..
 rw [h2]
 exact (List.Perm.of_eq h1).trans List.perm_middle
theorem bv5 {I : List Ent} {k : Nat} {e : Ent} (hk : k < I.length) : (I.set k e).Perm (e :: I.eraseIdx k) := by
 have h1 : (I.set k e)[k]? = some e := by simp [hk]
 have h2 := ay5 h1
 rwa [List.eraseIdx_set_eq] at h2
theorem bk4 {C I R : List Ent} {k : Nat} {e : Ent} (M : Mem h (e :: (C ++ (I.eraseIdx k ++ R)))) (hk : k < I.length) : Mem h (C ++ (I.set k e ++ R)) :=
 M.perm ((List.perm_middle (l₁ := C) (l₂ := I.eraseIdx k ++ R) (a := e)).symm.trans (((bv5 hk).symm.append_right R).append_left C))
theorem db3 [Inhabited α] {ls : List (List α)} {vs : List PV} {I : List Ent} {i : Int} (H : Ns t ty ls vs I) (h0 : 0 ≤ i) (h1 : i < ls.length) :
 ∃ v es, vs[i.toNat]? = some v ∧ I[i.toNat]? = some ⟨v, ty, t.sz, es⟩ ∧ All2 t.R (ix ls i) es ∧ isL v = true ∧ (ix ls i).length ≤ 4611686018427387904 ∧ Wri v es := by
 obtain ⟨v, e, h2, h3, h4⟩ := H.get (k := i.toNat) (by omega)
 rw [vw h0 h1]
 obtain ⟨v', ty', sz', es'⟩ := e
 obtain ⟨e1, e2, e3, e4, e5, e6, e7⟩ := h4
 simp only at e1 e2 e3
 subst e1 e2 e3
 exact ⟨v', es', h2, h3, e4, e5, e6, e7⟩
theorem ba8 {ls : List (List α)} {vs : List PV} {I : List Ent} {k : Nat} {l : List α} {v : PV} {es : List PV} (H : Ns t ty ls vs I) (h1 : All2 t.R l es) (h2 : isL v = true) (h3 : l.length ≤ 4611686018427387904) (h4 : Wri v es) : Ns t ty (ls.set k l) (vs.set k v) (I.set k ⟨v, ty, t.sz, es⟩) :=
 H.set ⟨rfl, rfl, rfl, h1, h2, h3, h4⟩
theorem aw6 {v : PV} : ∀ {vs : List PV} {k : Nat}, vs[k]? = some v → vs.set k v = vs
 | [], _, h => by simp at h
 | a :: vs, 0, h => by simp at h; simp [h]
 | a :: vs, k + 1, h => by simp at h; simp [aw6 h]
theorem an9 {ls : List (List α)} {vs : List PV} {I : List Ent} {k : Nat} {l : List α} {v : PV} {es : List PV} (H : Ns t ty ls vs I) (hv : vs[k]? = some v) (h1 : All2 t.R l es) (h2 : isL v = true) (h3 : l.length ≤ 4611686018427387904) (h4 : Wri v es) : Ns t ty (ls.set k l) vs (I.set k ⟨v, ty, t.sz, es⟩) := by
 have := ba8 H h1 h2 h3 h4 (k := k)
 rwa [aw6 hv] at this
theorem dj9 {v : PV} (h : cnt v = some 1) (ha : v.isAgg = false) : v.cellsOf = some [v] := by
 cases v <;> simp_all [cnt, PV.cellsOf, PV.isAgg]
theorem dn6 : ∀ {vs : List PV}, (∀ v ∈ vs, cnt v = some 1 ∧ v.isAgg = false) → rowCells vs = some vs
 | [], _ => rfl
 | v :: vs, h => by
   simp only [rowCells, dj9 (h v List.mem_cons_self).1 (h v List.mem_cons_self).2, dn6 fun x hx => h x (List.mem_cons_of_mem _ hx)]
   rfl
theorem bn0 {e : Ent} (H : EntR h e) (hne : isL e.v = true) (hc : closedL e.es = true) : ∃ r, DeepC P h e.v r ∧ IsSl r e.es := by
 obtain ⟨v, ty, sz, es⟩ := e
 have M : Mem h [⟨v, ty, sz, es⟩] := ⟨fun x hx => by rw [List.mem_singleton.1 hx]; exact H, List.pairwise_singleton ..⟩
 obtain ⟨r, h1, h2⟩ := ar8 (P := P) (k := 0) M rfl hne hc
 refine ⟨r, ?_, h2⟩
 have H2 := H.2
 have hra : r.isAgg = false := by rcases h2 with ⟨ad, rfl, _⟩ | ⟨tg, rfl⟩ <;> rfl
 simp only at hne hc
 unfold EntV at H2
 split at H2
 ·rename_i hv; simp only at hv; rw [hv] at hne; cases hne
 ·rename_i id ver n hv
  simp only at hv
  subst hv
  refine ⟨h1.1, by rw [hra]; rfl, fun k hk w0 F0 x us R hv => ?_⟩
  have hv0 := hv
  simp only [VRC] at hv
  obtain ⟨b, cap, hj, rfl, _⟩ := hv
  have := h1.2 k hk w0 F0 x _ R hv0
  unfold VR at this
  rw [hra] at this
  exact this
 ·rename_i ad hv
  simp only at hv
  subst hv
  refine ⟨h1.1, by rw [hra]; rfl, fun k hk w0 F0 x us R hv => ?_⟩
  have hv0 := hv
  simp only [VRC] at hv
  obtain ⟨rfl, _⟩ := hv
  have := h1.2 k hk w0 F0 x _ R hv0
  unfold VR at this
  rw [hra] at this
  exact this
 ·rename_i es' hv
  simp only at hv
  subst hv
  refine ⟨h1.1, by rw [hra]; rfl, fun k hk w0 F0 x us R hv => ?_⟩
  have hv0 := hv
  simp only [VRC] at hv
  obtain ⟨b, o, cap, sz, rfl, _⟩ := hv
  have := h1.2 k hk w0 F0 x _ R hv0
  unfold VR at this
  rw [hra] at this
  exact this
 ·rename_i hv; simp only at hv; rw [hv] at hne; cases hne
 ·exact H2.elim
theorem at9 : ∀ {ls : List (List α)} {vs : List PV} {I L : List Ent}, Mem h L → (∀ e ∈ I, e ∈ L) → Ns t ty ls vs I → ∃ ds, DeepCL P h vs ds ∧ All2 (tSl t).R ls ds
 | [], [], [], L, M, hs, H => ⟨[], trivial, trivial⟩
 | l :: ls, v :: vs, e :: es, L, M, hs, H => by
   obtain ⟨ds, h1, h2⟩ := at9 M (fun x hx => hs x (List.mem_cons_of_mem _ hx)) H.2
   obtain ⟨v', ty', sz', es'⟩ := e
   obtain ⟨e1, e2, e3, e4, e5, e6, e7⟩ := H.1
   simp only at e1 e2 e3 e4
   subst e1 e2 e3
   obtain ⟨r, h3, h4⟩ := bn0 (P := P) (M.ent _ (hs _ List.mem_cons_self)) e5 e4.clo
   exact ⟨r :: ds, ⟨h3, h1⟩, ⟨⟨_, h4, e4⟩, Nat.le_trans e6 (by decide)⟩, h2⟩
 | [], [], _ :: _, _, _, _, H => by simp [Ns] at H
 | [], _ :: _, _, _, _, _, H => by simp [Ns] at H
 | _ :: _, [], _, _, _, _, H => by simp [Ns] at H
 | _ :: _, _ :: _, [], _, _, _, H => by simp [Ns] at H
theorem bf0 {C R I : List Ent} {A : PV} {tyo : TypeId} {vs : List PV} {ls : List (List α)} {k : Nat} (M : Mem h (C ++ (I ++ R))) (hk : C[k]? = some ⟨A, tyo, 1, vs⟩) (hne : isL A = true) (H : Ns t ty ls vs I) (hb : ls.length ≤ 9223372036854775807) :
 ∃ r, Deep P h A r ∧ (tSl (tSl t)).R ls r := by
 obtain ⟨ds, h1, h2⟩ := at9 (P := P) M (fun e he => List.mem_append_right _ (List.mem_append_left _ he)) H
 have HE := M.ent _ (List.mem_append_left _ (List.mem_of_getElem? hk))
 have hld := h1.len
 have H2 := HE.2
 simp only at H2
 unfold EntV at H2
 split at H2
 ·cases hne
 ·rename_i id ver n
  obtain ⟨hn, cs, h3, h4⟩ := H2
  have c1 : ∀ v ∈ ds, cnt v = some 1 ∧ v.isAgg = false := by
   have : ∀ {ls : List (List α)} {ds : List PV}, All2 (tSl t).R ls ds → ∀ v ∈ ds, cnt v = some 1 ∧ v.isAgg = false := by
    intro ls ds h v hv
    refine ⟨All2.cnt (t := tSl t) h v hv, ?_⟩
    obtain ⟨j, hj, rfl⟩ := List.getElem_of_mem hv
    obtain ⟨a, ha⟩ : ∃ a, (tSl t).R a ds[j] := by
     have hl := h.length
     obtain ⟨e, he1, he2⟩ := h.get (k := j) (by omega)
     rw [List.getElem?_eq_getElem hj, Option.some.injEq] at he1
     exact ⟨_, he1 ▸ he2⟩
    exact (tSl t).agg ha
   exact this h2
  have c0 : ∀ v ∈ vs, cnt v = some 1 ∧ v.isAgg = false := by
   intro v hv
   refine ⟨HE.1 v hv, ?_⟩
   have : ∀ {vs ds : List PV}, DeepCL P h vs ds → (∀ v ∈ ds, v.isAgg = false) → ∀ v ∈ vs, v.isAgg = false := by
    intro vs
    induction vs with
    | nil => intro ds _ _ v hv; cases hv
    | cons a vs ih =>
      intro ds h k v hv
      cases ds with
      | nil => exact h.elim
      | cons d ds =>
        rcases List.mem_cons.1 hv with rfl | hv
        ·rw [← h.1.2.1]; exact k d List.mem_cons_self
        ·exact ih h.2 (fun x hx => k x (List.mem_cons_of_mem _ hx)) v hv
   exact this h1 (fun x hx => (c1 x hx).2) v hv
  rw [dn6 c0, Option.some.injEq] at h3
  subst h3
  refine ⟨.fs false ds, ⟨by have := h1.closed; simpa [closed] using this, fun k hk w0 F0 x u R hv => ?_⟩, ⟨⟨ds, .inr ⟨false, rfl⟩, h2⟩, hb⟩⟩
  simp only [VR, AsVal, PV.isAgg, VRC, List.cons.injEq, and_true] at hv
  obtain ⟨b, cap, hj, rfl, g1, g2, _⟩ := hv
  obtain ⟨cur, hcur, hcl, hvr⟩ := kr R (hk _ _ h4) hj
  have hF : (⟨x.w, star w0 F0 x.w, noJ⟩ : Cx).F b := .inr (R.own _ _ _ hj)
  have hall : ds.all (fun v => cnt v == some 1) = true := by
   rw [List.all_eq_true]
   intro v hv
   simp [(c1 v hv).1]
  have hle : 0 + ds.length * 1 ≤ vs.length := by omega
  have hseg := VRL_seg hcl hvr 0 (ds.length * 1) hle
  have e1 : (vs.drop 0).take (ds.length * 1) = vs := by rw [List.drop_zero, Nat.mul_one, ← hld, List.take_length]
  rw [e1] at hseg
  refine ⟨b, 0, cap, 1, by rw [hn, hld], by omega, g2, by simp, VRM_of_cells hF (dn6 c1) hall (kd hcur 0 (ds.length * 1)) (h1.vrl hk R hseg)⟩
 ·rename_i ad
  subst H2
  cases ls with
  | nil => exact ⟨_, cd rfl, ⟨⟨[], .inl ⟨ad, rfl, rfl⟩, trivial⟩, hb⟩⟩
  | cons a ls => simp [Ns] at H
 ·rename_i es'
  subst H2
  have := h1
  refine ⟨.fs true ds, ⟨by have := h1.closed; simpa [closed] using this, fun k hk w0 F0 x u R hv => ?_⟩, ⟨⟨ds, .inr ⟨true, rfl⟩, h2⟩, hb⟩⟩
  simp only [VR, AsVal, PV.isAgg, VRC] at hv ⊢
  obtain ⟨b, o, cap, sz, e, g2, g3, g4, hr⟩ := hv
  rw [← h1.len]
  exact ⟨b, o, cap, sz, e, g2, g3, g4, h1.vrm hk R hr⟩
 ·cases hne
 ·exact H2.elim
end
end
end Go.Pb
set_option linter.unusedVariables false
set_option linter.unusedSimpArgs false
namespace Go.Pb
open Go Go.RowKit
mutual
theorem xw (d e : Nat) : ∀ v : PV, closed v = true → shV d e v = v
 | .sc v, _ => rfl
 | .agg cs, h => by rw [shV, pb d e cs (by simpa [closed] using h)]
 | .tup vs, h => by rw [shV, pb d e vs (by simpa [closed] using h)]
 | .fs t es, h => by rw [shV, pb d e es (by simpa [closed] using h)]
 | .fp x, h => by rw [shV, xw d e x (by simpa [closed] using h)]
 | .os _ _ _ _, h => by simp [closed] at h
 | .op _ _ _, h => by simp [closed] at h
 | .om _ _, h => by simp [closed] at h
 | .fn f a b, h => by
   simp only [closed, Bool.and_eq_true] at h
   rw [shV, pb d e a h.1, pb d e b h.2]
 | .ifc t v, h => by rw [shV, xw d e v (by simpa [closed] using h)]
 | .junk, _ => rfl
theorem pb (d e : Nat) : ∀ l : List PV, closedL l = true → shL d e l = l
 | [], _ => rfl
 | v :: r, h => by
   simp only [closedL, Bool.and_eq_true] at h
   rw [shL, xw d e v h.1, pb d e r h.2]
end
theorem FnX.bump {P : Program} {g : FuncId} {ags : List PV} {h k : Heap} {r : PV} (H : FnX P g ags h r k) {n : Nat} (hn : k.nv ≤ n) : FnX P g ags h r ⟨n, k.bl⟩ := by
 refine ⟨H.1, fun w0 F0 x cargs R ha => (H.2 w0 F0 x cargs R ha).mono fun e w' hh => ?_⟩
 obtain ⟨v, r', h', y, rfl, hw, ⟨rfl, rfl⟩, R', E, hv⟩ := hh
 exact ⟨v, _, _, y, rfl, hw, ⟨rfl, rfl⟩, R'.sub hn fun id blk hb => .inl hb, E, hv⟩
theorem bi9 : ∀ (l : List Blk) (m : Nat), ∃ n, m ≤ n ∧ ∀ b ∈ l, b.ver < n
 | [], m => ⟨m, Nat.le_refl _, by simp⟩
 | b :: l, m => by
   obtain ⟨n, h1, h2⟩ := bi9 l m
   refine ⟨max n (b.ver + 1), by omega, fun c hc => ?_⟩
   rcases List.mem_cons.1 hc with rfl | hc
   ·omega
   ·have := h2 c hc; omega
theorem Mem.nv {h : Heap} {L : List Ent} (M : Mem h L) (n : Nat) : Mem ⟨n, h.bl⟩ L := ⟨fun e he => (M.ent e he).frame fun _ _ _ => rfl, M.dis⟩
theorem bn2 {h k : Heap} {L : List Ent} {v : PV} {ty : TypeId} {sz : Nat} {es : List PV} (M : Mem h L) (N : Mem k [⟨v, ty, sz, es⟩]) (hne : isL v = true) (hc : closedL es = true) :
 ∃ v', shV h.bl.length h.nv v = v' ∧ isL v' = true ∧ (Wri v es → Wri v' es) ∧ Mem (graft h k) (⟨v', ty, sz, es⟩ :: L) := by
 have H := N.atF (k := 0) rfl
 have hb : ∀ i, i < hlen h → blk (graft h k) i = blk h i := fun i hi => by
  simp only [blk, graft]; exact List.getElem?_append_left hi
 have HV := H.2
 unfold EntV at HV
 split at HV
 ·cases hne
 ·rename_i id ver n
  obtain ⟨hn, cs, h1, h2⟩ := HV
  have hcs : closedL cs = true := zb h1 hc
  refine ⟨_, rfl, rfl, fun hw => .inr ⟨_, _, _, rfl⟩, M.new ⟨H.1, hn, cs, h1, ?_⟩ (fun i hi => ?_) hb⟩
  ·have e := pb h.bl.length h.nv cs hcs
   simp only [blk, graft] at h2 ⊢
   rw [List.getElem?_append_right (by omega), Nat.add_sub_cancel, List.getElem?_map, h2]
   simp [shB, e]
  ·simp only [idOf, shV, Option.some.injEq] at hi
   show h.bl.length ≤ i
   omega
 ·exact ⟨_, rfl, rfl, fun hw => .inl HV, M.new ⟨H.1, HV⟩ (fun i hi => by simp [idOf, shV] at hi) hb⟩
 ·rename_i es'
  have HV : es' = es := HV
  subst HV
  refine ⟨_, rfl, rfl, fun hw => ?_, M.new ⟨H.1, ?_⟩ (fun i hi => by simp [idOf, shV] at hi) hb⟩
  ·rcases hw with rfl | ⟨_, _, _, h⟩
   ·exact .inl rfl
   ·cases h
  ·show EntV _ _ _ (.fs true (shL _ _ es'))
   rw [pb _ _ _ hc]; rfl
 ·cases hne
 ·exact HV.elim
theorem ce6 {P : Program} {g : FuncId} {ags : List PV} {r0 : PV} {k0 : Heap} {ty : TypeId} {sz : Nat} {es : List PV} (hF : FnX P g ags ⟨0, []⟩ r0 k0) (hc : closedL ags = true) (N : Mem k0 [⟨r0, ty, sz, es⟩]) (hne : isL r0 = true) (hes : closedL es = true) (hw : Wri r0 es) {h : Heap} {L : List Ent} (M : Mem h L) :
 ∃ v k0' , FnX P g ags ⟨0, []⟩ r0 k0' ∧ (∀ b ∈ k0'.bl, b.ver < k0'.nv) ∧ v = shV h.bl.length h.nv r0 ∧ isL v = true ∧ Wri v es ∧ Mem (graft h k0') (⟨v, ty, sz, es⟩ :: L) := by
 obtain ⟨n, h1, h2⟩ := bi9 k0.bl k0.nv
 obtain ⟨v, e, h3, h4, h5⟩ := bn2 M (N.nv n) hne hes
 exact ⟨v, ⟨n, k0.bl⟩, hF.bump h1, h2, e.symm, h3, h4 hw, h5⟩
section
variable {P : Program} {S : List Fr} {Q : Post} {E : TEnv} {h h' : Heap} {hf : Bool} {r : List AOper} {d : Nat} {op : AOp} {v : PV} {f : Operand} {args : List Operand} {g : FuncId} {ags : List PV}
def runM' (P : Program) (al : List AOper) (S : List Fr) (Q : Post) (T : Nat → PV) (h : Heap) : Prop := wpM P al T h (asPost P S Q .normal)
def RMg (P : Program) (l : List AOper) (S : List Fr) (Q : Post) (E : TEnv) (h : Heap) : Prop := ∀ T, Ag E T → runM' P l S Q T h
theorem ya {al : List AOper} (k : RMg P al S Q E h) : RC P (.regionM al) S Q E h := k
theorem ba4 (k : PN P S Q E h) : RMg P [] S Q E h := k
theorem rm_q (H : OV P op hf E h v) (k : RMg P r S Q ((d, v) :: E) h) : RMg P (⟨some d, op, none, hf⟩ :: r) S Q E h := fun T hT =>
 ⟨v, h, ⟨true, rfl, fun _ => .inl ⟨H.1, H.2 T hT, rfl⟩, fun e => by cases e⟩, k _ (hT.put d v)⟩
theorem rm_a (H : LV P op E h v h') (ha : op.isA = true) (k : RMg P r S Q ((d, v) :: E) h') : RMg P (⟨some d, op, none, hf⟩ :: r) S Q E h := fun T hT =>
 ⟨v, h', ⟨true, rfl, fun _ => .inr (.inr (.inl ⟨ha, H.2 T hT⟩)), fun e => by cases e⟩, k _ (hT.put d v)⟩
theorem rm_b (H : LV P op E h v h') (hb : op.bar = true) (k : RMg P r S Q ((d, v) :: E) h') : RMg P (⟨some d, op, none, false⟩ :: r) S Q E h := fun T hT =>
 ⟨v, h', ⟨true, rfl, fun _ => .inr (.inl ⟨hb, H.2 T hT, fun e => by cases e⟩), fun e => by cases e⟩, k _ (hT.put d v)⟩
theorem dy0 (H : LV P op E h v h') (hb : op.bar = true) (ha : Ap h h') (k : RMg P r S Q ((d, v) :: E) h') : RMg P (⟨some d, op, none, hf⟩ :: r) S Q E h := fun T hT =>
 ⟨v, h', ⟨true, rfl, fun _ => .inr (.inl ⟨hb, H.2 T hT, fun _ => ha⟩), fun e => by cases e⟩, k _ (hT.put d v)⟩
theorem db6 (H : LV P op E h v h') (hb : op.bar = true) (k : RMg P r S Q E h') : RMg P (⟨none, op, none, false⟩ :: r) S Q E h := fun T hT =>
 ⟨v, h', ⟨true, rfl, fun _ => .inr (.inl ⟨hb, H.2 T hT, fun e => by cases e⟩), fun e => by cases e⟩, k _ hT⟩
theorem zk {r0 : PV} {k0 : Heap} {ty : TypeId} {sz : Nat} {es : List PV} {L : List Ent} (hF : FnX P g ags ⟨0, []⟩ r0 k0) (N : Mem k0 [⟨r0, ty, sz, es⟩]) (hne : isL r0 = true) (hes : closedL es = true) (hw : Wri r0 es) (M : Mem h L) (ef : evE E f = some (.fn (.func g) [] [])) (ea : evL E args = some ags) (hc : closedL ags = true)
 (k : ∀ v h', isL v = true → Wri v es → Mem h' (⟨v, ty, sz, es⟩ :: L) → RMg P r S Q ((d, v) :: E) h') : RMg P (⟨some d, .call f args, none, hf⟩ :: r) S Q E h := by
 obtain ⟨v, k0', h1, h2, h3, h4, h5, h6⟩ := ce6 hF hc N hne hes hw M
 intro T hT
 exact ⟨v, _, ⟨true, rfl, fun _ => .inr (.inr (.inr ⟨f, args, g, ags, rfl, by rw [ej hT ef, sx hT ea, uh]; simp, .inr ⟨r0, k0', hc, h1, h2, h3, rfl⟩⟩)), fun e => by cases e⟩, by have := k v _ h4 h5 h6 _ (hT.put d v); rw [h3] at this ⊢; exact this⟩
end
section
variable {P : Program} {S : List Fr} {Q : Post} {E : TEnv} {h : Heap} {L : List Ent} {hf : Bool} {r : List AOper} {d k : Nat} {ty : TypeId} {sz : Nat} {o o' : Operand}
theorem bo6 {z : Value} {n : Nat} {t : TypeId} {x : PV} (M : Mem h L) (hz : PV.ofConst z = x) (hx : cnt x = some n) (K : ∀ id ver h', Mem h' (⟨.op id ver 0, t, n, [x]⟩ :: L) → RMg P r S Q ((d, .op id ver 0) :: E) h') : RMg P (⟨some d, .alloc true t z, none, hf⟩ :: r) S Q E h := by
 obtain ⟨id, ver, h', h1, h2⟩ := at4 (P := P) (E := E) (t := t) M hz hx
 exact rm_a h1 rfl (K _ _ _ h2)
theorem bp0 {id ver : Nat} {x v : PV} (M : Mem h L) (eo : evE E o = some (.op id ver 0)) (ev' : evE E o' = some v) (hk : L[k]? = some ⟨.op id ver 0, ty, sz, [x]⟩) (hv : cnt v = some sz) (K : ∀ h', Mem h' (L.set k ⟨.op id ver 0, ty, sz, [v]⟩) → RMg P r S Q E h') : RMg P (⟨none, .store sz o o', none, false⟩ :: r) S Q E h := by
 obtain ⟨h', h1, h2⟩ := as5 (P := P) M eo ev' hk hv
 exact db6 h1 rfl (K _ h2)
theorem al5 {id ver off n : Nat} {cs ds : List PV} {v : PV} (M : Mem h L) (eo : evE E o = some (.op id ver (0 + off))) (ev' : evE E o' = some v) (hk : L[k]? = some ⟨.op id ver 0, ty, sz, [.agg cs]⟩) (hv : v.cellsOf = some ds) (hn : ds.length = n) (hl : off + ds.length ≤ cs.length)
 (K : ∀ h', Mem h' (L.set k ⟨.op id ver 0, ty, sz, [.agg (spl cs off ds)]⟩) → RMg P r S Q E h') : RMg P (⟨none, .store n o o', none, false⟩ :: r) S Q E h := by
 obtain ⟨h', h1, h2⟩ := am5 (P := P) M eo ev' hk hv hn hl
 exact db6 h1 rfl (K _ h2)
theorem bg0 {t : TypeId} {v x : PV} {es news : List PV} {b : Nat} (M : Mem h L) (eo : evE E o = some v) (ex : evE E o' = some x) (hk : L[k]? = some ⟨v, ty, sz, es⟩) (hne : isL v = true) (hw : Wri v es) (hx : Src h sz x news) (hf' : fits (es.length + news.length) b = true)
 (K : ∀ v' h', isL v' = true → Wri v' (es ++ news) → Mem h' (L.set k ⟨v', ty, sz, es ++ news⟩) → RMg P r S Q ((d, v') :: E) h') : RMg P (⟨some d, .append t ty sz b o o', none, false⟩ :: r) S Q E h := by
 obtain ⟨v', h', h1, h2, h3⟩ := mem_append M hk hne hx hf'
 exact rm_b ⟨rfl, fun T hT => by show appendR h ty sz b (ev T o) (ev T o') = _; rw [ej hT eo, ej hT ex, h1]⟩ rfl (K _ _ h2 (ao0 hw (M.atF hk).2 hne hx h1) h3)
theorem di2 {h h' : Heap} {b m : Nat} {news : List PV} {v v' : PV} (hv : v = .fs true [] ∨ ∃ ad, v = .sc (.slice ad 0 0)) (H : appF h ty sz b m news v = some (v', h')) : Ap h h' := by
 have nb : ∀ cs, Ap h (newBlk h ty cs) := fun cs => ⟨⟨_, rfl, fun b hb => by rw [List.mem_singleton.1 hb]; exact Nat.le_refl _⟩, Nat.le_succ _⟩
 rcases hv with rfl | ⟨ad, rfl⟩
 ·simp only [appF] at H
  split at H
  ·cases H; exact Ap.refl _
  ·split at H
   ·simp only [Option.map_eq_some_iff, Prod.mk.injEq] at H
    obtain ⟨cs, _, _, rfl⟩ := H
    exact nb _
   ·cases H
 ·simp only [appF] at H
  split at H
  ·cases H; exact Ap.refl _
  ·split at H
   ·cases H; exact nb _
   ·cases H
theorem cr7 {t : TypeId} {v x : PV} {news : List PV} {b : Nat} (M : Mem h L) (eo : evE E o = some v) (hv : v = .fs true [] ∨ ∃ ad, v = .sc (.slice ad 0 0)) (ex : evE E o' = some x) (hx : Src h sz x news) (hf' : fits news.length b = true)
 (K : ∀ v' h', isL v' = true → Wri v' news → Mem h' (⟨v', ty, sz, news⟩ :: L) → RMg P r S Q ((d, v') :: E) h') : RMg P (⟨some d, .append t ty sz b o o', none, hf⟩ :: r) S Q E h := by
 have M1 : Mem h (⟨v, ty, sz, []⟩ :: L) := by
  refine mm M ty ?_ (by simp)
  rcases hv with e | ⟨ad, e⟩
  ·exact .inr e
  ·exact .inl ⟨ad, e, rfl⟩
 have hne : isL v = true := by rcases hv with rfl | ⟨ad, rfl⟩ <;> rfl
 obtain ⟨v', h', h1, h2, h3⟩ := mem_append (k := 0) M1 rfl hne hx (by simpa using hf')
 refine dy0 ⟨rfl, fun T hT => by show appendR h ty sz b (ev T o) (ev T o') = _; rw [ej hT eo, ej hT ex, h1]⟩ rfl ?_ (K _ _ h2 (ao0 (.inl rfl) (M1.atF (k := 0) rfl).2 hne hx h1) h3)
 unfold appendR at h1
 split at h1
 ·exact di2 hv h1
 ·cases h1
end
theorem dc0 {sz : Nat} {v : PV} {i : Int} {k : IntKind} {w : Option PV} (h : idxR sz v (vi i) = w) : idxR sz v (.sc (.int k i)) = w := by
 cases v <;> exact h
theorem ad1 {P : Program} {h : Heap} {L : List Ent} {k id ver : Nat} {ty : TypeId} {sz : Nat} {x : PV} (M : Mem h L) (hk : L[k]? = some ⟨.op id ver 0, ty, sz, [x]⟩) (hc : closed x = true) : Deep P h (.op id ver 0) (.fp x) := by
 obtain ⟨h1, x', cs, h2, h3, h4⟩ := M.atF hk
 simp only [List.cons.injEq, and_true] at h2
 subst h2
 refine ⟨hc, fun k hk' w0 F0 y u R hv => ?_⟩
 simp only [VR, AsVal, PV.isAgg, VRC, List.cons.injEq, and_true] at hv ⊢
 obtain ⟨b, hj, rfl⟩ := hv
 obtain ⟨cur, hcur, hcl, hvr⟩ := kr R (hk' _ _ h4) hj
 exact ⟨b, 0, cur.toList.take cs.length, rfl, .inr (R.own _ _ _ hj), by simpa using kd hcur 0 cs.length, VRC_of_cells h3 (VRL_sees (pl R) _ _ (by have e := qn h3; first | (rw [← e]; exact hc) | (rw [e]; exact hc)) hvr)⟩
theorem co9 {P : Program} {E : TEnv} {h : Heap} {L : List Ent} {k id ver n : Nat} {t e ty : TypeId} {sz : Nat} {x : PV} {es news : List PV} {o o' : Operand} (M : Mem h L) (eo : evE E o = some (.os id ver 0 n)) (ex : evE E o' = some x) (hk : L[k]? = some ⟨.os id ver 0 n, ty, sz, es⟩) (hx : Src h sz x news) (hl : news.length = es.length) :
 ∃ h', LV P (.copy t e sz o o') E h (vi (news.length : Int)) h' ∧ Mem h' (L.set k ⟨.os id ver 0 n, ty, sz, news⟩) := by
 obtain ⟨hc, hn, cs, h2, h3⟩ := M.atF hk
 obtain ⟨ncs, s1, s2, s3⟩ := hx
 obtain ⟨cs', h4, h5⟩ := lb hc
 rw [h2] at h4
 simp only [Option.some.injEq] at h4
 subst h4
 obtain ⟨ncs', h6, h7⟩ := lb s3
 rw [s2] at h6
 simp only [Option.some.injEq] at h6
 subst h6
 have hs : spl cs 0 ncs = ncs := by simp [spl, h7, h5, hl]
 refine ⟨hput h id (.cells ver ty true ncs), ⟨rfl, fun T hT => ?_⟩, M.upd hk ⟨s3, hn.trans hl.symm, ncs, s2, by simp [pr h3]⟩ (fun i hi => .inl hi) fun i hi hne' => oc _ _ _ _ fun e => hne' (by simp [idOf, e])⟩
 have e1 := ej hT eo
 have e2 := ej hT ex
 have hb : h.bl[id]? = some (.cells ver ty true cs) := h3
 simp only [opL, e1, e2, s1, hb]
 rw [if_pos ⟨trivial, by omega, by rw [h5, hl]; omega⟩, hs]
 rfl
theorem cn2 {P : Program} {S : List Fr} {Q : Post} {E : TEnv} {h : Heap} {L : List Ent} {k id ver n d : Nat} {t e ty : TypeId} {sz : Nat} {x : PV} {es news : List PV} {o o' : Operand} {r : List AOper} {hf : Bool} (M : Mem h L) (eo : evE E o = some (.os id ver 0 n)) (ex : evE E o' = some x) (hk : L[k]? = some ⟨.os id ver 0 n, ty, sz, es⟩) (hx : Src h sz x news) (hl : news.length = es.length)
 (K : ∀ h', Mem h' (L.set k ⟨.os id ver 0 n, ty, sz, news⟩) → RD P r S Q ((d, vi (news.length : Int)) :: E) h') : RD P (⟨some d, .copy t e sz o o', none, hf⟩ :: r) S Q E h := by
 obtain ⟨h', lv, M'⟩ := co9 (P := P) (t := t) (e := e) M eo ex hk hx hl
 exact ai7 lv (K h' M')
theorem cn0 {P : Program} {E : TEnv} {h : Heap} {L : List Ent} {k : Nat} {ty : TypeId} {v zz : PV} {es : List PV} {z : Value} {x : Operand} (M : Mem h L) (ex : evE E x = some v) (hk : L[k]? = some ⟨v, ty, 1, es⟩) (hne : isL v = true) (hw : Wri v es) (hz : z.cells.toList.map PV.sc = [zz]) (hzc : zz.cellsOf = some [zz]) (hzn : cnt zz = some 1) :
 ∃ h', LV P (.clr 1 z x) E h (.tup []) h' ∧ Mem h' (L.set k ⟨v, ty, 1, List.replicate es.length zz⟩) := by
 have H := M.atF hk
 have same : es = [] → Mem h (L.set k ⟨v, ty, 1, List.replicate es.length zz⟩) := fun e => by
  subst e
  have : L.set k ⟨v, ty, 1, List.replicate ([] : List PV).length zz⟩ = L := by
   obtain ⟨h5, h6⟩ := List.getElem?_eq_some_iff.1 hk
   have : (⟨v, ty, 1, List.replicate ([] : List PV).length zz⟩ : Ent) = L[k] := by rw [h6]; rfl
   rw [this, List.set_getElem_self]
  rw [this]; exact M
 rcases hw with rfl | ⟨id, ver, n, rfl⟩
 ·refine ⟨h, ⟨rfl, fun T hT => ?_⟩, same rfl⟩
  have HV := H.2
  have ex' := ej hT ex
  unfold EntV at HV
  split at HV
  ·cases hne
  ·have hn : _ = 0 := HV.1
   subst hn
   simp only [opL, ex']
  ·simp only [opL, ex']
  ·have HV : _ = [] := HV
   subst HV
   simp only [opL, ex']
  ·cases hne
  ·exact HV.elim
 ·obtain ⟨hc, hn, cs, h2, h3⟩ := H
  obtain ⟨cs', h4, h5⟩ := lb hc
  rw [h2] at h4
  simp only [Option.some.injEq] at h4
  subst h4
  rw [Nat.mul_one] at h5
  by_cases h0 : n = 0
  ·refine ⟨h, ⟨rfl, fun T hT => ?_⟩, same (List.eq_nil_of_length_eq_zero (by omega))⟩
   subst h0
   have ex' := ej hT ex
   simp only [opL, ex']
  ·obtain ⟨q, hq⟩ : ∃ q, n = q + 1 := ⟨n - 1, by omega⟩
   subst hq
   have hr := zg hzc (q + 1)
   have hrl : (repCells (q + 1) [zz]).length = q + 1 := by simp [repCells]
   have hs : spl cs 0 (repCells (q + 1) [zz]) = repCells (q + 1) [zz] := by simp [spl, hrl]; omega
   refine ⟨hput h id (.cells ver ty true (repCells (q + 1) [zz])), ⟨rfl, fun T hT => ?_⟩, M.upd hk ⟨fun y hy => by rw [(List.mem_replicate.1 hy).2]; exact hzn, by simp [hn], _, by rw [← hn]; exact hr, by simp [pr h3]⟩ (fun i hi => .inl hi) fun i hi hne' => oc _ _ _ _ fun e => hne' (by simp [idOf, e])⟩
   have ex' := ej hT ex
   have hb : h.bl[id]? = some (.cells ver ty true cs) := h3
   simp only [opL, ex', hb, hz]
   rw [if_pos ⟨trivial, by omega, by omega⟩, hs]
   rfl
theorem FnR.of_X {P : Program} {g : FuncId} {ags : List PV} {r0 d : PV} {k0 : Heap} (H : FnX P g ags ⟨0, []⟩ r0 k0) (hd : Deep P k0 r0 d) : FnR P g ags d := by
 refine ⟨H.1, fun w F cargs hF ha => ?_⟩
 have R : RelP P w F ⟨0, []⟩ ⟨w, F, noJ⟩ :=
  ⟨Bel.refl _ _, hF, fun _ h => h, fun b hb => ⟨hF b hb, .inl hb⟩, (fun id ver b hb => by cases hb), fun _ _ _ => rfl, (fun id id' blk blk' b h1 => by simp at h1), (fun id blk hb => by simp at hb)⟩
 refine (H.2 _ _ _ _ R ha).mono fun e w' hh => ?_
 obtain ⟨v, r', h', y, rfl, rfl, ⟨rfl, rfl⟩, R', E, hv⟩ := hh
 exact ⟨v, ⟨y.w, star w F y.w, noJ⟩, rfl, rfl, ⟨R'.below, rfl, fun b hb => .inl hb, fun b hb => hb⟩, hd.2 _ (Sub.refl _) w F y v R' hv⟩
theorem af2 {P : Program} {h : Heap} {L : List Ent} {E : TEnv} {S : List Fr} {Q : Post} {ty : TypeId} {sz k : Nat} {d : Bool} {id ver : Nat} {x : PV} {l : List AOper} {E' : TEnv} (M : Mem h L) (hk : L[k]? = some ⟨.op id ver 0, ty, sz, [x]⟩) (hE : FrzE (.op id ver 0) (.fp x) E E') (K : ∀ h', Mem h' (L.eraseIdx k) → RD P l S Q E' h') : RC P (.region d l) S Q E h := by
 obtain ⟨hc, x', cs, h1, h2, h3⟩ := M.atF hk
 simp only [List.cons.injEq, and_true] at h1
 subst h1
 have hM : Mem (hput h id (.cells ver ty false cs)) (L.eraseIdx k) := by
  refine ⟨fun e he => ?_, M.dis.sublist (List.eraseIdx_sublist ..)⟩
  obtain ⟨j, hj⟩ := List.getElem?_of_mem he
  rw [List.getElem?_eraseIdx] at hj
  have hjk : ∃ j, j ≠ k ∧ L[j]? = some e := by
   split at hj
   ·exact ⟨j, by omega, hj⟩
   ·exact ⟨j + 1, by omega, hj⟩
  obtain ⟨j, hne, hj⟩ := hjk
  refine (M.ent e (List.mem_of_getElem? hj)).frame fun i hi _ => ?_
  have ha := qg M.dis hk hne hj
  exact oc h id i _ fun e' => ha i (by simp [idOf, e']) hi
 intro T hT
 refine .inr (.inr ⟨fun t => match look t E' with | some u => u | none => T t, hput h id (.cells ver ty false cs), ?_, K _ hM _ fun t u e => by simp only [e]⟩)
 intro w0 F0 n' z a R hTm
 obtain ⟨y, ew, eJ, Ex, hF, R'⟩ := R.freeze h3
 refine ⟨y, ew, Ex, R', hTm.size, fun t => ?_, hTm.defers⟩
 have h0 := VR_ext Ex (hTm.at_ t)
 split
 ·rename_i u hu
  obtain ⟨w, h5, h4⟩ := hE t u hu
  rw [hT t w h5] at h0
  have hb : ∀ us, VRC P y (.op id ver 0) us → VRC P y (.fp x) us := fun us hv => by
   have hone : ∃ u, us = [u] := by
    simp only [VRC] at hv
    obtain ⟨b, _, e⟩ := hv
    exact ⟨_, e⟩
   obtain ⟨u, rfl⟩ := hone
   exact VR_frozenp (u := u) R' (ae9 h id _ (pr h3)) (fun b hj => hF b (by rw [← eJ]; exact hj)) h2 hv
  have := h4.agg_eq rfl
  unfold VR at h0 ⊢
  rw [← this]
  exact AsVal.imp (h4.conv hb) h0
 ·exact h0
end Go.Pb
