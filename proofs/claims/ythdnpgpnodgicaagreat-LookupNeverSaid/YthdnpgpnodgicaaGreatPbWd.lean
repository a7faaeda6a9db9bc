import Derived.Test.YthdnpgpnodgicaaGreatPbHeap
import Derived.DeepKeys3
set_option linter.all false
namespace Go.Pb
open Go Go.RowKit
def numsB : List IntKind → List Value → Bool
 | [], [] => true
 | k :: ks, .int k' n :: vs => k' == k && (Lit.int k n).wf && numsB ks vs
 | _, _ => false
theorem wu : ∀ {ks : List IntKind} {vs : List Value}, numsB ks vs = true → vs.length = ks.length
 | [], [], _ => rfl
 | k :: ks, v :: vs, h => by
   cases v <;> simp only [numsB, Bool.false_eq_true] at h
   simp only [Bool.and_eq_true] at h
   rw [List.length_cons, List.length_cons, wu h.2]
 | [], _ :: _, h => by simp [numsB] at h
 | _ :: _, [], h => by simp [numsB] at h
theorem ul : ∀ (a : Nat) {ks : List IntKind} {vs : List Value}, numsB ks vs = true → numsB (ks.drop a) (vs.drop a) = true
 | 0, ks, vs, h => h
 | a + 1, [], [], _ => rfl
 | a + 1, k :: ks, v :: vs, h => by
   cases v <;> simp only [numsB, Bool.false_eq_true] at h
   simp only [Bool.and_eq_true] at h
   exact ul a h.2
 | _ + 1, [], _ :: _, h => by simp [numsB] at h
 | _ + 1, _ :: _, [], h => by simp [numsB] at h
theorem uu : ∀ (a : Nat) {ks : List IntKind} {vs : List Value}, numsB ks vs = true → numsB (ks.take a) (vs.take a) = true
 | 0, ks, vs, h => by simp [numsB]
 | a + 1, [], [], _ => rfl
 | a + 1, k :: ks, v :: vs, h => by
   cases v <;> simp only [numsB, Bool.false_eq_true] at h
   simp only [Bool.and_eq_true] at h
   simp only [List.take_succ_cons, numsB, Bool.and_eq_true]
   exact ⟨h.1, uu a h.2⟩
 | _ + 1, [], _ :: _, h => by simp [numsB] at h
 | _ + 1, _ :: _, [], h => by simp [numsB] at h
theorem ae8 {α β : Type} {f g : α → Option β} : ∀ {L : List α}, (∀ x ∈ L, (f x).isSome = true → (g x).isSome = true) → (L.mapM f).isSome = true → (L.mapM g).isSome = true
 | [], _, _ => rfl
 | x :: L, H, h => by
   rw [List.mapM_cons] at h ⊢
   cases hf : f x with
   | none => rw [hf] at h; simp at h
   | some b =>
     rw [hf] at h
     have hg := H x (by simp) (by rw [hf]; rfl)
     cases hg' : g x with
     | none => rw [hg'] at hg; cases hg
     | some c =>
       cases hm : L.mapM f with
       | none => rw [hm] at h; simp at h
       | some r =>
         have := ae8 (fun y hy => H y (by simp [hy])) (show (L.mapM f).isSome = true by rw [hm]; rfl)
         cases hm' : L.mapM g with
         | none => rw [hm'] at this; cases this
         | some r' => simp
theorem aw3 {P : Program} : ∀ (D : Nat) (t : TypeId) (ks : List IntKind) (cs cs' : List Value), numsB ks cs = true → numsB ks cs' = true → (P.keyLits D t cs).isSome = true → (P.keyLits D t cs').isSome = true
 | 0, t, ks, cs, cs', h, h', hk => by simp [Program.keyLits] at hk
 | D + 1, t, ks, cs, cs', h, h', hk => by
   have hl : cs'.length = cs.length := by rw [wu h, wu h']
   unfold Program.keyLits at hk ⊢
   cases hu : P.underlying t with
   | none => rw [hu] at hk; simp at hk
   | some d =>
     rw [hu] at hk
     cases d
     case bool =>
      exfalso
      split at hk <;> simp_all
      cases ks <;> simp [numsB] at h
     case string =>
      exfalso
      split at hk <;> simp_all
      cases ks <;> simp [numsB] at h
     case int q =>
      cases cs with
      | nil => simp at hk
      | cons v r =>
        cases r with
        | cons w r => cases v <;> simp at hk
        | nil =>
          cases ks with
          | nil => simp [numsB] at h
          | cons k ks =>
            cases ks with
            | cons k2 ks => cases v <;> simp [numsB] at h
            | nil =>
              cases v <;> simp only [numsB, Bool.false_eq_true] at h
              rename_i q' n
              cases cs' with
              | nil => simp [numsB] at h'
              | cons v' r' =>
                cases r' with
                | cons w' r' => cases v' <;> simp [numsB] at h'
                | nil =>
                  cases v' <;> simp only [numsB, Bool.false_eq_true] at h'
                  simp only [Bool.and_eq_true, beq_iff_eq, and_true] at h h'
                  obtain ⟨rfl, h2⟩ := h
                  obtain ⟨rfl, h2'⟩ := h'
                  simp only at hk ⊢
                  split at hk
                  ·rename_i hc
                   rw [if_pos ⟨hc.1, by rw [← hc.1]; exact h2'⟩]
                   rfl
                  ·cases hk
     case array n e =>
      simp only at hk ⊢
      split at hk
      ·rename_i hc
       rw [if_pos (by rw [hl]; exact hc)]
       rw [Option.isSome_map] at hk ⊢
       exact ae8 (fun i _ hi => aw3 D e _ _ _ (uu _ (ul _ h)) (uu _ (ul _ h')) hi) hk
      ·cases hk
     case struct fs =>
      simp only at hk ⊢
      split at hk
      ·rename_i hc
       rw [if_pos (by rw [hl]; exact hc)]
       rw [Option.isSome_map] at hk ⊢
       exact ae8 (fun f _ hi => aw3 D f.type _ _ _ (uu _ (ul _ h)) (uu _ (ul _ h')) hi) hk
      ·cases hk
     all_goals simp at hk
def wideB (P : Program) (k : TypeId) : Bool := match P.underlying k with
 | some (.array _ _) | some (.struct _) => true
 | _ => false
def zeros (ks : List IntKind) : List Value := ks.map fun q => .int q 0
def wideOK (P : Program) (k : TypeId) (ks : List IntKind) : Bool :=
 P.keyTypeAt 9 k && P.tiled 9 k && wideB P k && numsB ks (zeros ks) && (keyOf P k (.agg (zeros ks).toArray)).isSome
section
variable {P : Program} {k : TypeId} {ks : List IntKind}
theorem bb3 (h : wideOK P k ks = true) : WideMaps.KeyLaw P k := by
 simp only [wideOK, Bool.and_eq_true] at h
 refine deep_law (m := 9) (by decide) h.1.1.1.1 h.1.1.1.2 ?_
 have := h.1.1.2
 unfold wideB at this
 exact this
theorem ak6 (h : wideOK P k ks = true) {us : List Value} (hu : numsB ks us = true) : ∃ l, keyOf P k (.agg us.toArray) = some l := by
 simp only [wideOK, Bool.and_eq_true] at h
 obtain ⟨⟨⟨_, hw⟩, hz⟩, hk⟩ := h
 have hl : us.length = (zeros ks).length := by rw [wu hu, wu hz]
 have key : ∀ (d : TypeDesc), P.underlying k = some d → (∃ fs, d = .struct fs) ∨ (∃ n e, d = .array n e) → ∃ l, keyOf P k (.agg us.toArray) = some l := by
  intro d hd hs
  have e1 : ∀ v, keyOf P k v = if (P.keyType k && v.formed P k) = true then (P.keyLits (P.types.size + 1) k v.cells.toList).map fun ls => Lit.string (keyBytes ls) else none := by
   intro v
   unfold keyOf
   rcases hs with ⟨fs, rfl⟩ | ⟨n, e, rfl⟩ <;> rw [hd]
  rw [e1] at hk ⊢
  split at hk
  ·rename_i hc
   have hf : (Value.agg us.toArray).formed P k = (Value.agg (zeros ks).toArray).formed P k := by
    simp only [Value.formed, List.size_toArray, hl]
   rw [hf, if_pos hc]
   rw [Option.isSome_map] at hk
   have := aw3 (P := P) _ k ks _ us.toArray.toList (by simpa [Value.cells] using hz) (by simpa using hu) hk
   obtain ⟨l, hl'⟩ := Option.isSome_iff_exists.1 this
   exact ⟨.string (keyBytes l), by simp only [Value.cells]; rw [hl']; rfl⟩
  ·cases hk
 unfold wideB at hw
 split at hw
 ·rename_i n e hd; exact key _ hd (.inr ⟨_, _, rfl⟩)
 ·rename_i fs hd; exact key _ hd (.inl ⟨_, rfl⟩)
 ·cases hw
end
def eqN : List Value → List Value → Bool
 | [], [] => true
 | .int k a :: r, .int k' b :: s => k == k' && decide (a = b) && eqN r s
 | _, _ => false
theorem bo7 : ∀ {ks : List IntKind} {us vs : List Value}, numsB ks us = true → numsB ks vs = true → (eqN us vs = true ↔ us = vs)
 | [], [], [], _, _ => by simp [eqN]
 | k :: ks, u :: us, v :: vs, h, h' => by
   cases u <;> simp only [numsB, Bool.false_eq_true] at h
   cases v <;> simp only [numsB, Bool.false_eq_true] at h'
   simp only [Bool.and_eq_true, beq_iff_eq] at h h'
   obtain ⟨⟨rfl, _⟩, h⟩ := h
   obtain ⟨⟨rfl, _⟩, h'⟩ := h'
   simp only [eqN, beq_self_eq_true, Bool.true_and, Bool.and_eq_true, decide_eq_true_eq, bo7 h h', List.cons.injEq, Value.int.injEq, true_and]
 | [], _ :: _, _, h, _ => by simp [numsB] at h
 | [], [], _ :: _, _, h => by simp [numsB] at h
 | _ :: _, [], _, h, _ => by simp [numsB] at h
 | _ :: _, _ :: _, [], _, h => by simp [numsB] at h
def scW : List PV → Option (List Value)
 | [] => some []
 | .sc v :: r => (scW r).map (v :: ·)
 | _ => none
def keyP (ks : List IntKind) : PV → Option (List Value)
 | .agg cs => match scW cs with
   | some us => bif numsB ks us then some us else none
   | none => none
 | _ => none
def isW (us : List Value) : Value → Bool
 | .agg xs => eqN us xs.toList
 | _ => false
def kindW (ks : List IntKind) : Value → Bool
 | .agg xs => numsB ks xs.toList
 | _ => false
theorem ab0 {ks : List IntKind} {us : List Value} {v : Value} (hu : numsB ks us = true) (hv : kindW ks v = true) : isW us v = true ↔ v = .agg us.toArray := by
 cases v <;> simp only [kindW, Bool.false_eq_true] at hv
 rename_i xs
 simp only [isW, bo7 hu hv, Value.agg.injEq]
 constructor
 ·rintro rfl; simp
 ·rintro rfl; simp
def getW (us : List Value) : List (Value × PV) → Option PV
 | [] => none
 | e :: r => bif isW us e.1 then some e.2 else getW us r
def putW (us : List Value) (v : PV) : List (Value × PV) → List (Value × PV)
 | [] => [(.agg us.toArray, v)]
 | e :: r => bif isW us e.1 then (.agg us.toArray, v) :: r else e :: putW us v r
def distW : List (Value × PV) → Bool
 | [] => true
 | e :: r => (match e.1 with
   | .agg xs => r.all fun f => !isW xs.toList f.1
   | _ => false) && distW r
def lookW (h : Heap) (ks : List IntKind) (z : Value) (ok : Bool) (m i : PV) : Option (PV × Heap) := match m, keyP ks i with
 | .om id ver, some us => match h.bl[id]? with
   | some (.mp ver' es) => if ver' = ver ∧ es.all (fun e => kindW ks e.1) = true ∧ distW es = true then
      some (bif ok then .tup [((getW us es).getD (.ofConst z)), .sc (.bool (getW us es).isSome)] else (getW us es).getD (.ofConst z), h) else none
   | _ => none
 | _, _ => none
def updW (h : Heap) (ks : List IntKind) (m i v : PV) : Option (PV × Heap) := match m, keyP ks i with
 | .om id ver, some us => match h.bl[id]? with
   | some (.mp ver' es) => if ver' = ver ∧ es.all (fun e => kindW ks e.1) = true ∧ distW es = true then some (.tup [], ⟨h.nv, h.bl.set id (.mp ver (putW us v es))⟩) else none
   | _ => none
 | _, _ => none
def kindsOf (P : Program) : Nat → TypeId → Option (List IntKind)
 | 0, _ => none
 | m + 1, t => match P.underlying t with
   | some (.int q) => some [q]
   | some (.array n e) => (kindsOf P m e).map fun l => (List.replicate n l).flatten
   | some (.struct fs) => (fs.toList.mapM fun f => kindsOf P m f.type).map List.flatten
   | _ => none
end Go.Pb
