import Derived.Test.YthdnpgpnodgicaaGreatPbMap
import Derived.Test.YthdnpgpnodgicaaGreatPbWd
set_option linter.all false
namespace Go.Pb
open Go Go.RowKit Go.MapKept
section
variable {P : Program} {x : Cx} {w0 : World} {F0 : Nat → Prop} {h : Heap} {n : Nat} {T : Nat → PV} {a : Act} {ks : List IntKind} {us : List Value}
theorem as2 {u : PV} {u' : Value} {born : Nat} (hu : VR P x u u') : ∀ {es : List (Value × PV)} {ces : List MapEntry}, MapR P x es ces → getW us es = none → MapR P x (putW us u es) (ces ++ [{ key := .agg us.toArray, val := u', born := born }])
 | [], [], _, _ => ⟨rfl, hu, trivial⟩
 | [], _ :: _, hm, _ => by simp [MapR] at hm
 | _ :: _, [], hm, _ => by simp [MapR] at hm
 | e :: es, c :: ces, hm, hg => by
   simp only [getW] at hg
   cases hk : isW us e.1 with
   | true => simp [hk] at hg
   | false =>
     simp only [hk, cond_false] at hg
     simp only [putW, hk, cond_false, List.cons_append]
     exact ⟨hm.1, hm.2.1, as2 hu hm.2.2 hg⟩
theorem ae6 (hu : numsB ks us = true) : ∀ {es : List (Value × PV)} {ces : List MapEntry}, MapR P x es ces → es.all (fun e => kindW ks e.1) = true → (∀ e ∈ ces, e.key ≠ .agg us.toArray) → getW us es = none
 | [], _, _, _, _ => rfl
 | _ :: _, [], hm, _, _ => by simp [MapR] at hm
 | e :: es, c :: ces, hm, ha, hn => by
   simp only [List.all_cons, Bool.and_eq_true] at ha
   have : isW us e.1 = false := by
    rw [Bool.eq_false_iff]
    intro hc
    exact hn c (by simp) (hm.1.trans ((ab0 hu ha.1).1 hc))
   simp only [getW, this, cond_false]
   exact ae6 hu hm.2.2 ha.2 fun e he => hn e (by simp [he])
theorem bs2 (hu : numsB ks us = true) {e : Value × PV} {es : List (Value × PV)} {ces : List MapEntry} {j : Nat} {ce : MapEntry} (hd : distW (e :: es) = true) (ha : kindW ks e.1 = true) (hal : es.all (fun e => kindW ks e.1) = true) (hm : MapR P x es ces) (hj : ces[j]? = some ce) (hk : ce.key = .agg us.toArray) : isW us e.1 = false := by
 rw [Bool.eq_false_iff]
 intro hc
 have e1 := (ab0 hu ha).1 hc
 simp only [distW, e1, Bool.and_eq_true] at hd
 have key : ∀ {es : List (Value × PV)} {ces : List MapEntry} {j : Nat}, MapR P x es ces → ces[j]? = some ce → ∃ f ∈ es, f.1 = .agg us.toArray := by
  intro es
  induction es with
  | nil => intro ces j hm hj; cases ces with | nil => simp at hj | cons _ _ => simp [MapR] at hm
  | cons f es ih =>
    intro ces j hm hj
    cases ces with
    | nil => simp [MapR] at hm
    | cons c ces =>
      cases j with
      | zero => simp only [List.getElem?_cons_zero, Option.some.injEq] at hj; subst hj; exact ⟨f, by simp, hm.1.symm.trans hk⟩
      | succ j => obtain ⟨g, hg, h1⟩ := ih hm.2.2 (by simpa using hj); exact ⟨g, by simp [hg], h1⟩
 obtain ⟨f, hf, h1⟩ := key hm hj
 have h2 := List.all_eq_true.1 hd.1 f hf
 have h3 := List.all_eq_true.1 hal f hf
 rw [(ab0 (us := us.toArray.toList) (by simpa using hu) h3).2 (by simpa using h1)] at h2
 cases h2
theorem aw1 (hu : numsB ks us = true) {ce : MapEntry} (hk : ce.key = .agg us.toArray) : ∀ {es : List (Value × PV)} {ces : List MapEntry} {j : Nat}, MapR P x es ces → es.all (fun e => kindW ks e.1) = true → distW es = true → ces[j]? = some ce →
 ∃ v, getW us es = some v ∧ VR P x v ce.val ∧ ∀ u u', VR P x u u' → MapR P x (putW us u es) (ces.modify j fun e => { e with key := .agg us.toArray, val := u' })
 | [], [], j, _, _, _, hj => by simp at hj
 | [], _ :: _, _, hm, _, _, _ => by simp [MapR] at hm
 | _ :: _, [], _, hm, _, _, _ => by simp [MapR] at hm
 | e :: es, c :: ces, 0, hm, ha, hd, hj => by
   simp only [List.getElem?_cons_zero, Option.some.injEq] at hj
   subst hj
   simp only [List.all_cons, Bool.and_eq_true] at ha
   have hi : isW us e.1 = true := (ab0 hu ha.1).2 (hm.1.symm.trans hk)
   refine ⟨e.2, by simp [getW, hi], hm.2.1, fun u u' hu' => ?_⟩
   simp only [putW, hi, cond_true, List.modify_zero_cons]
   exact ⟨rfl, hu', hm.2.2⟩
 | e :: es, c :: ces, j + 1, hm, ha, hd, hj => by
   simp only [List.getElem?_cons_succ] at hj
   have ha' := ha
   simp only [List.all_cons, Bool.and_eq_true] at ha
   have hi := bs2 hu hd ha.1 ha.2 hm.2.2 hj hk
   have hd' : distW es = true := by simp only [distW, Bool.and_eq_true] at hd; exact hd.2
   obtain ⟨v, h1, h2, h3⟩ := aw1 hu hk hm.2.2 ha.2 hd' hj
   refine ⟨v, by simp only [getW, hi, cond_false]; exact h1, h2, fun u u' hu' => ?_⟩
   simp only [putW, hi, cond_false, List.modify_succ_cons]
   exact ⟨hm.1, hm.2.1, h3 u u' hu'⟩
theorem by0 : ∀ {cs : List PV} {us xs : List Value}, scW cs = some us → VRL P x cs xs → xs = us
 | [], us, [], h, _ => by simp only [scW, Option.some.injEq] at h; exact h
 | [], _, _ :: _, _, hv => by simp [VRL] at hv
 | .sc v :: cs, us, [], _, hv => by simp [VRL] at hv
 | .sc v :: cs, us, y :: xs, h, hv => by
   simp only [scW, Option.map_eq_some_iff] at h
   obtain ⟨r, hr, rfl⟩ := h
   simp only [VRL] at hv
   have h1 := hv.2.1
   simp only [VRC, List.cons.injEq, and_true] at h1
   rw [h1.1, by0 hr hv.2.2]
 | .agg _ :: _, _, _, h, _ | .tup _ :: _, _, _, h, _ | .fs _ _ :: _, _, _, h, _ | .fp _ :: _, _, _, h, _ | .os _ _ _ _ :: _, _, _, h, _ | .op _ _ _ :: _, _, _, h, _ | .om _ _ :: _, _, _, h, _ | .fn _ _ _ :: _, _, _, h, _ | .ifc _ _ :: _, _, _, h, _ | .junk :: _, _, _, h, _ => by simp [scW] at h
theorem bq0 {i : PV} {u : Value} (h : keyP ks i = some us) (hv : VR P x i u) : u = .agg us.toArray ∧ numsB ks us = true := by
 unfold keyP at h
 split at h
 ·split at h
  ·rename_i us' hs
   cases hn : numsB ks us' with
   | false => rw [hn] at h; cases h
   | true =>
     rw [hn] at h
     simp only [cond_true, Option.some.injEq] at h
     subst h
     obtain ⟨xs, rfl, hr⟩ := hv
     simp only [VRC] at hr
     exact ⟨by rw [by0 hs hr], hn⟩
  ·cases h
 ·cases h
theorem al7 {k : TypeId} (hk : wideOK P k ks = true) : ∀ {es : List (Value × PV)} {ces : List MapEntry}, MapR P x es ces → es.all (fun e => kindW ks e.1) = true → ∀ e ∈ ces, ∃ l, keyOf P k e.key = some l
 | [], [], _, _, e, he => by cases he
 | [], _ :: _, hm, _, _, _ => by simp [MapR] at hm
 | _ :: _, [], hm, _, _, _ => by simp [MapR] at hm
 | f :: es, c :: ces, hm, ha, e, he => by
   simp only [List.all_cons, Bool.and_eq_true] at ha
   rcases List.mem_cons.1 he with rfl | he
   ·have hf := ha.1
    rw [hm.1]
    cases hv : f.1 <;> rw [hv] at hf <;> simp only [kindW, Bool.false_eq_true] at hf
    rename_i xs
    simpa using ak6 hk (us := xs.toList) hf
   ·exact al7 hk hm.2.2 ha.2 e he
theorem ao8 {o : Oper} {t k e : TypeId} {i : TypeInfo} {z : Value} {ok : Bool} {y j : Operand} {r : PV} {h' : Heap} (R : RelP P w0 F0 h x) (hT : Temps P x n T a) (ho : o.op = .lookup t y j ok) (ht : P.underlying t = some (.map k e)) (hk : wideOK P k ks = true)
 (hi : P.info? e = some i) (hz : i.zero = some z) (hq : opL T h (.lookupW t k e ks z ok y j) = some (r, h')) : GoodL P w0 F0 a x o h.nv r h' := by
 have KL := bb3 hk
 simp only [opL, lookW] at hq
 split at hq
 ·rename_i id ver us hv hj
  split at hq
  ·rename_i ver' es hb
   split at hq
   ·rename_i hc
    obtain ⟨rfl, hall, hdist⟩ := hc
    simp only [Option.some.injEq, Prod.mk.injEq] at hq
    obtain ⟨rfl, rfl⟩ := hq
    have hy := hT.ev y
    rw [hv] at hy
    simp only [VR, AsVal, PV.isAgg, VRC, List.cons.injEq, and_true] at hy
    obtain ⟨b, hjj, ey⟩ := hy
    obtain ⟨ex, hu⟩ := bq0 hj (hT.ev j)
    obtain ⟨lx, hlx⟩ := ak6 hk hu
    obtain ⟨⟨ces, clock, hcur, hm⟩, _⟩ := R.hr id _ hb b hjj
    have hzero : (zeroValue e).run P x.w = .ok z x.w := by
     simp [zeroValue, typeInfo, run_program, hi, hz, Sem.run_bind, Result.andThen]
    have hck := KL.check x.w ces.isEmpty hlx
    have hkeys := al7 hk hm hall
    have base : ∃ v f, (Instr.lookup t (.map (some b)) (.agg us.toArray) ok).run P x.w = .ok (if ok then .tuple #[v, .bool f] else v) x.w ∧ VR P x ((getW us es).getD (.ofConst z)) v ∧ f = (getW us es).isSome := by
     rcases KL.find x.w hlx ces.toList hkeys with ⟨h5, h4⟩ | ⟨jj, ce, h8, h5, h6⟩
     ·have h4 := ae6 hu hm hall h4
      refine ⟨z, false, ?_, by rw [h4]; exact VR_ofConst P x z, by rw [h4]; rfl⟩
      simp only [Instr.lookup, Sem.run_bind, run_underlying ht, Result.andThen_ok, MapKept.run_getObj_map hcur, Sem.run_pure, hck, h5, hzero]
     ·obtain ⟨v, h4, h7, h9⟩ := aw1 hu h6 hm hall hdist h5
      refine ⟨ce.val, true, ?_, by rw [h4]; exact h7, by rw [h4]; rfl⟩
      simp only [Instr.lookup, Sem.run_bind, run_underlying ht, Result.andThen_ok, MapKept.run_getObj_map hcur, Sem.run_pure, hck, h8]
    obtain ⟨v, f, hrun, hvr, rfl⟩ := base
    refine ⟨.value (if ok then .tuple #[v, .bool (getW us es).isSome] else v), _, x, ?_, .inl rfl, R, Ext.refl x, ?_, fun _ _ _ hn => hn⟩
    ·simp only [execOp, ho, ey, ex, Sem.run_bind, hrun, Result.andThen_ok, Sem.run_pure]
    ·cases ok with
     | false => simpa using hvr
     | true =>
       simp only [cond_true, if_true]
       exact ⟨[v, .bool (getW us es).isSome], rfl, by simp only [VRV]; exact ⟨hvr, by simp [PV.isAgg, AsVal, VRC, Value.oneCell'], trivial⟩⟩
   ·cases hq
  ·cases hq
 ·cases hq
theorem ao4 {o : Oper} {t k e : TypeId} {y j v : Operand} {r : PV} {h' : Heap} (R : RelP P w0 F0 h x) (hT : Temps P x n T a) (ho : o.op = .mapUpdate t y j v) (ht : P.underlying t = some (.map k e)) (hk : wideOK P k ks = true)
 (hq : opL T h (.mapUpdW t k ks y j v) = some (r, h')) : GoodL P w0 F0 a x o h.nv r h' := by
 have KL := bb3 hk
 simp only [opL, updW] at hq
 split at hq
 ·rename_i id ver us hv hj
  split at hq
  ·rename_i ver' es hb
   split at hq
   ·rename_i hc
    obtain ⟨rfl, hall, hdist⟩ := hc
    simp only [Option.some.injEq, Prod.mk.injEq] at hq
    obtain ⟨rfl, rfl⟩ := hq
    have hy := hT.ev y
    rw [hv] at hy
    simp only [VR, AsVal, PV.isAgg, VRC, List.cons.injEq, and_true] at hy
    obtain ⟨b, hjj, ey⟩ := hy
    obtain ⟨ex, hu⟩ := bq0 hj (hT.ev j)
    obtain ⟨lx, hlx⟩ := ak6 hk hu
    obtain ⟨⟨ces, clock, hcur, hm⟩, _⟩ := R.hr id _ hb b hjj
    have hck := KL.check x.w false hlx
    have hkeys := al7 hk hm hall
    have base : ∃ ces' clock', (Instr.mapUpdate t (.map (some b)) (.agg us.toArray) (a.eval v)).run P x.w = .ok () { x.w with heap := x.w.heap.setIfInBounds b (.map ces' clock') } ∧ MapR P x (putW us (ev T v) es) ces'.toList := by
     rcases KL.find x.w hlx ces.toList hkeys with ⟨h5, h4⟩ | ⟨jj, ce, h8, h5, h6⟩
     ·have h4 := ae6 hu hm hall h4
      refine ⟨ces.push { key := .agg us.toArray, val := a.eval v, born := clock }, clock + 1, ?_, by rw [Array.toList_push]; exact as2 (hT.ev v) hm h4⟩
      simp only [Instr.mapUpdate, Sem.run_bind, run_underlying ht, Result.andThen_ok, MapKept.run_getObj_map hcur, Sem.run_pure, hck, h5, MapKept.run_setObj_map _ hcur]
     ·obtain ⟨w, h4, h7, h9⟩ := aw1 hu h6 hm hall hdist h5
      refine ⟨ces.modify jj fun e => { e with key := .agg us.toArray, val := a.eval v }, clock, ?_, by rw [Array.toList_modify]; exact h9 _ _ (hT.ev v)⟩
      have hce : ces[jj]? = some ce := by simpa using h5
      have hst := KL.stays x.w hlx
      simp only [Instr.mapUpdate, Sem.run_bind, run_underlying ht, Result.andThen_ok, MapKept.run_getObj_map hcur, Sem.run_pure, hck, h8, hce, Option.map_some, Option.getD_some, h6, hst, MapKept.run_setObj_map _ hcur]
    obtain ⟨ces', clock', hrun, hmr⟩ := base
    obtain ⟨R', E⟩ := R.setMap (clock' := clock') hb hjj hcur hmr
    refine ⟨.skip, undef, _, ?_, .inr ⟨rfl, rfl⟩, R', E, ⟨[], rfl, by simp [VRV]⟩, fun _ _ _ hn => hn⟩
    simp only [execOp, ho, ey, ex, Sem.run_bind, hrun, Result.andThen_ok, Sem.run_pure]
   ·cases hq
  ·cases hq
 ·cases hq
end
end Go.Pb
