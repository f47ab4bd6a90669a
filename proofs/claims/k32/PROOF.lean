import PyProof.Rows.All
import Wide.All
import OpenK.AllK
import Wide.FinOn
import HandS.ForMost
import HandS.Defaults
import HandS.Walk
import HandS.Conv
import HandS.SortInts
import HandS.SortKw
import HandS.IsInst
import HandS.Zip
import HandS.Star
import HandS.TupAny
import HandS.Style
import HandS.Deep
import HandS.Zip0
import PyProof.Draws
import PyProof.SumWalk
import HandS.Head0
import HandS.Strs
import HandS.ListItems
import HandS.SortRule
import HandS.Iter
import HandS.SetFor
import KE.KDictList
import KE.KStateDown
import HandS.Dict
import KE.DataMinMax
import KE.DataCmp
import HandS.Head1
import HandS.Head2
import HandS.HeadEnd
import HandS.HeadHook1
import HandS.HeadHook2
import PySem.Challenge.RW_howeverlate_k32_whole_lines_times_as_gre
set_option Elab.async false
set_option linter.all false
set_option maxRecDepth 100000
set_option maxHeartbeats 0
set_option autoImplicit false
/-! An abstract layer over HandS: values as data, a frozen heap below the heap, owned objects. -/
namespace AL
open PySem PySem.Spec PyProof.Rows L2
/-! ### data only grows -/
theorem Same.tupS {K : PySem.W.Frag} {H H' : Hp} {a : Addr} {xs : List V} (e : Same H H') (h : SqT K H a xs) : SqT K H' a xs := by
  rcases h with h | h
  · rcases h with h | ⟨o, h⟩
    · exact .inl (.inl (e _ _ h))
    · exact .inl (.inr ⟨o, e _ _ h⟩)
  · exact .inr h
mutual
theorem dpMono {K : PySem.W.Frag} {F F' : Hp} (e : Same F F') : ∀ (d : PyData) (v : V), Dp K F v d → Dp K F' v d
  | .none, _, h => by cases h; exact .non
  | .bool b, _, h => by cases h; exact .bl b
  | .int i, _, h => by cases h; exact .int i
  | .str x, _, h => by cases h; exact .str x
  | .list ds, _, h => by
    cases h with
    | lst hs ha => exact .lst (e.seq hs) (dpMonoAll e ds _ ha)
  | .tuple ds, _, h => by
    cases h with
    | tup hs ha => exact .tup (Same.tupS e hs) (dpMonoAll e ds _ ha)
  | .dict _, _, h => by cases h
theorem dpMonoAll {K : PySem.W.Frag} {F F' : Hp} (e : Same F F') : ∀ (ds : List PyData) (vs : List V), DpAll K F vs ds → DpAll K F' vs ds
  | [], _, h => by cases h; exact .nil
  | d :: ds, _, h => by
    cases h with
    | cons h1 h2 => exact .cons (dpMono e d _ h1) (dpMonoAll e ds _ h2)
end
theorem dpAll_len {K : PySem.W.Frag} {F : Hp} : ∀ {ds : List PyData} {vs : List V}, DpAll K F vs ds → vs.length = ds.length
  | [], _, h => by cases h; rfl
  | d :: ds, _, h => by
    cases h with
    | cons h1 h2 => exact congrArg (· + 1) (dpAll_len h2)
theorem dpAll_get {K : PySem.W.Frag} {F : Hp} : ∀ {ds : List PyData} {vs : List V} {i : Nat} {d : PyData}, DpAll K F vs ds → ds[i]? = some d → ∃ v, vs[i]? = some v ∧ Dp K F v d
  | [], _, _, _, h, e => by simp at e
  | d :: ds, _, 0, _, h, e => by
    cases h with
    | cons h1 h2 =>
      have e' := Option.some.inj e
      subst e'
      exact ⟨_, rfl, h1⟩
  | d :: ds, _, i + 1, _, h, e => by
    cases h with
    | cons h1 h2 =>
      obtain ⟨v, e1, e2⟩ := dpAll_get (i := i) h2 e
      exact ⟨v, e1, e2⟩
theorem dpAll_append {K : PySem.W.Frag} {F : Hp} : ∀ {ds es : List PyData} {vs us : List V}, DpAll K F vs ds → DpAll K F us es → DpAll K F (vs ++ us) (ds ++ es)
  | [], _, _, _, h, g => by cases h; exact g
  | d :: ds, _, _, _, h, g => by
    cases h with
    | cons h1 h2 => exact .cons h1 (dpAll_append h2 g)
theorem dpAll_take {K : PySem.W.Frag} {F : Hp} : ∀ (n : Nat) {ds : List PyData} {vs : List V}, DpAll K F vs ds → DpAll K F (vs.take n) (ds.take n)
  | 0, _, _, _ => .nil
  | n + 1, [], _, h => by cases h; exact .nil
  | n + 1, d :: ds, _, h => by
    cases h with
    | cons h1 h2 => exact .cons h1 (dpAll_take n h2)
theorem dpAll_drop {K : PySem.W.Frag} {F : Hp} : ∀ (n : Nat) {ds : List PyData} {vs : List V}, DpAll K F vs ds → DpAll K F (vs.drop n) (ds.drop n)
  | 0, _, _, h => h
  | n + 1, [], _, h => by cases h; exact .nil
  | n + 1, d :: ds, _, h => by
    cases h with
    | cons h1 h2 => exact dpAll_drop n h2
theorem dpAll_set {K : PySem.W.Frag} {F : Hp} {v : V} {d : PyData} (g : Dp K F v d) : ∀ (n : Nat) {ds : List PyData} {vs : List V}, DpAll K F vs ds → DpAll K F (vs.set n v) (ds.set n d)
  | n, [], _, h => by cases h; exact .nil
  | 0, _ :: _, _, h => by
    cases h with
    | cons h1 h2 => exact .cons g h2
  | n + 1, _ :: _, _, h => by
    cases h with
    | cons h1 h2 => exact .cons h1 (dpAll_set g n h2)
theorem dpAll_erase {K : PySem.W.Frag} {F : Hp} : ∀ (n : Nat) {ds : List PyData} {vs : List V}, DpAll K F vs ds → DpAll K F (vs.eraseIdx n) (ds.eraseIdx n)
  | n, [], _, h => by cases h; exact .nil
  | 0, _ :: _, _, h => by
    cases h with
    | cons h1 h2 => exact h2
  | n + 1, _ :: _, _, h => by
    cases h with
    | cons h1 h2 => exact .cons h1 (dpAll_erase n h2)
/-- ints as data, as values -/
abbrev dI (ns : List Int) : List PyData := ns.map PyData.int
theorem dp_ints {K : PySem.W.Frag} {F : Hp} : ∀ {ns : List Int} {vs : List V}, DpAll K F vs (dI ns) → vs = ns.map V.int
  | [], _, h => by cases h; rfl
  | n :: ns, _, h => by
    cases h with
    | cons h1 h2 =>
      cases h1
      rw [dp_ints h2]
      rfl
theorem ints_dp {K : PySem.W.Frag} {F : Hp} : ∀ ns : List Int, DpAll K F (ns.map V.int) (dI ns)
  | [] => .nil
  | n :: ns => .cons (.int n) (ints_dp ns)
theorem dp_bools {K : PySem.W.Frag} {F : Hp} : ∀ {ns : List Bool} {vs : List V}, DpAll K F vs (ns.map PyData.bool) → vs = ns.map V.bl
  | [], _, h => by cases h; rfl
  | n :: ns, _, h => by
    cases h with
    | cons h1 h2 =>
      cases h1
      rw [dp_bools h2]
      rfl
/-! ### slots, owned objects -/
/-- what is known of a slot: nothing, its data, its very value -/
inductive Sl where
  | u
  | d (x : PyData)
  | v (x : V)
def VOk (K : PySem.W.Frag) (F : Hp) (v : V) : Sl → Prop
  | .u => True
  | .d x => Dp K F v x
  | .v x => v = x
theorem VOk.mono {K : PySem.W.Frag} {F F' : Hp} (e : Same F F') {v : V} : ∀ {s : Sl}, VOk K F v s → VOk K F' v s
  | .u, _ => True.intro
  | .d x, h => dpMono e x v h
  | .v _, h => h
def SOk (K : PySem.W.Frag) (F : Hp) (o : Option V) (s : Sl) : Prop := s = .u ∨ ∃ v, o = some v ∧ VOk K F v s
theorem SOk.mono {K : PySem.W.Frag} {F F' : Hp} (e : Same F F') {o : Option V} {s : Sl} (h : SOk K F o s) : SOk K F' o s := by
  rcases h with h | ⟨v, h1, h2⟩
  · exact .inl h
  · exact .inr ⟨v, h1, h2.mono e⟩
/-- the slots as told -/
structure ROk (K : PySem.W.Frag) (F : Hp) (σ : L2.St) (ρ : List Sl) : Prop where
  len : σ.length = ρ.length
  at_ : ∀ (i : Nat) (s : Sl) (o : Option V), ρ[i]? = some s → σ[i]? = some o → SOk K F o s
section
variable {K : PySem.W.Frag} {F F' : Hp} {σ : L2.St} {ρ : List Sl}
theorem ROk.mono (e : Same F F') (h : ROk K F σ ρ) : ROk K F' σ ρ := ⟨h.len, fun i s o h1 h2 => (h.at_ i s o h1 h2).mono e⟩
theorem ROk.set (h : ROk K F σ ρ) {v : V} {s : Sl} (hv : VOk K F v s) (i : Nat) : ROk K F (σ.set i (some v)) (ρ.set i s) := by
  refine ⟨by rw [List.length_set, List.length_set]; exact h.len, fun j t o h1 h2 => ?_⟩
  by_cases e : i = j
  · subst e
    by_cases hl : i < ρ.length
    · rw [List.getElem?_set_self hl] at h1
      rw [List.getElem?_set_self (by rw [h.len]; exact hl)] at h2
      cases h1
      cases h2
      exact .inr ⟨v, rfl, hv⟩
    · rw [List.getElem?_eq_none (by rw [List.length_set]; omega)] at h1
      cases h1
  · rw [List.getElem?_set_ne e] at h1 h2
    exact h.at_ j t o h1 h2
theorem ROk.setU (h : ROk K F σ ρ) {o : Option V} (i : Nat) : ROk K F (σ.set i o) (ρ.set i .u) := by
  refine ⟨by rw [List.length_set, List.length_set]; exact h.len, fun j t o' h1 h2 => ?_⟩
  by_cases e : i = j
  · subst e
    by_cases hl : i < ρ.length
    · rw [List.getElem?_set_self hl] at h1
      cases h1
      exact .inl rfl
    · rw [List.getElem?_eq_none (by rw [List.length_set]; omega)] at h1
      cases h1
  · rw [List.getElem?_set_ne e] at h1 h2
    exact h.at_ j t o' h1 h2
theorem ROk.get (h : ROk K F σ ρ) {i : Nat} {s : Sl} (e : ρ[i]? = some s) (hs : s ≠ .u) : ∃ v, σ[i]? = some (some v) ∧ VOk K F v s := by
  have hl : i < σ.length := by
    rw [h.len]
    exact (List.getElem?_eq_some_iff.mp e).1
  have e2 : σ[i]? = some σ[i] := List.getElem?_eq_getElem hl
  rcases h.at_ i s _ e e2 with q | ⟨v, q1, q2⟩
  · exact absurd q hs
  · exact ⟨v, by rw [e2, q1], q2⟩
/-- slots forgotten -/
def wipeS (ρ : List Sl) : List Nat → List Sl
  | [] => ρ
  | v :: vs => (wipeS ρ vs).set v .u
theorem ROk.wipe (h : ROk K F σ ρ) : ∀ vs : List Nat, ROk K F (wipe σ vs) (wipeS ρ vs)
  | [] => h
  | v :: vs => (ROk.wipe h vs).setU v
end
/-- what stands at an owned address: a list of data, a dict of data -/
inductive Oc where
  | lst (ds : List PyData)
  | dK (kds : List (Key × PyData))
inductive KVD (K : PySem.W.Frag) (F : Hp) : List (Key × V) → List (Key × PyData) → Prop
  | nil : KVD K F [] []
  | cons {k : Key} {v : V} {d : PyData} {kvs : List (Key × V)} {kds : List (Key × PyData)} : Dp K F v d → KVD K F kvs kds → KVD K F ((k, v) :: kvs) ((k, d) :: kds)
theorem KVD.mono {K : PySem.W.Frag} {F F' : Hp} (e : Same F F') : ∀ {kvs : List (Key × V)} {kds : List (Key × PyData)}, KVD K F kvs kds → KVD K F' kvs kds
  | _, _, .nil => .nil
  | _, _, .cons h t => .cons (dpMono e _ _ h) (KVD.mono e t)
def OcOk (K : PySem.W.Frag) (F : Hp) (o : HO) : Oc → Prop
  | .lst ds => ∃ vs, o = .lst vs ∧ DpAll K F vs ds
  | .dK kds => ∃ kvs, o = .dK kvs ∧ KVD K F kvs kds
theorem OcOk.mono {K : PySem.W.Frag} {F F' : Hp} (e : Same F F') {o : HO} : ∀ {c : Oc}, OcOk K F o c → OcOk K F' o c
  | .lst ds, ⟨vs, h1, h2⟩ => ⟨vs, h1, dpMonoAll e ds vs h2⟩
  | .dK kds, ⟨kvs, h1, h2⟩ => ⟨kvs, h1, h2.mono e⟩
abbrev Own := List (Addr × Oc)
abbrev dom (O : Own) : List Addr := O.map (·.1)
structure OwnOk (K : PySem.W.Frag) (F H : Hp) (O : Own) : Prop where
  nd : (dom O).Nodup
  at_ : ∀ p c, (p, c) ∈ O → F p = none ∧ ∃ o, H p = some o ∧ OcOk K F o c
theorem OwnOk.nil {K : PySem.W.Frag} {F H : Hp} : OwnOk K F H [] := ⟨List.nodup_nil, fun _ _ h => nomatch h⟩
/-- from one state to a later one: what is not owned stays, what is frozen stays frozen -/
structure Step (K : PySem.W.Frag) (O : Own) (F H : Hp) (O' : Own) (F' H' : Hp) : Prop where
  ff : Same F F'
  fh : Same F' H'
  kp : ∀ b o, H b = some o → b ∉ dom O → H' b = some o ∧ F' b = F b
  th : ∀ b o, H b = some o → ∃ o', H' b = some o'
  own : OwnOk K F' H' O'
  sub : ∀ b ∈ dom O', b ∈ dom O ∨ H b = none
section
variable {K : PySem.W.Frag} {F H F' H' F1 H1 F2 H2 : Hp} {O O' O1 O2 : Own}
theorem Step.refl (s : Same F H) (w : OwnOk K F H O) : Step K O F H O F H :=
  ⟨Same.refl F, s, fun _ _ e _ => ⟨e, rfl⟩, fun _ o e => ⟨o, e⟩, w, fun _ hb => .inl hb⟩
theorem Step.trans (a : Step K O F H O1 F1 H1) (b : Step K O1 F1 H1 O2 F2 H2) : Step K O F H O2 F2 H2 := by
  refine ⟨a.ff.trans b.ff, b.fh, fun c o e hc => ?_, fun c o e => ?_, b.own, fun c hc => ?_⟩
  · obtain ⟨e1, f1⟩ := a.kp c o e hc
    have hc1 : c ∉ dom O1 := fun z => by
      rcases a.sub c z with q | q
      · exact hc q
      · rw [e] at q; cases q
    obtain ⟨e2, f2⟩ := b.kp c o e1 hc1
    exact ⟨e2, f2.trans f1⟩
  · obtain ⟨o1, e1⟩ := a.th c o e
    exact b.th c o1 e1
  · rcases b.sub c hc with q | q
    · exact a.sub c q
    · right
      cases z : H c with
      | none => rfl
      | some o =>
        obtain ⟨o1, e1⟩ := a.th c o z
        rw [q] at e1
        cases e1
theorem Step.free (a : Step K O F H O1 F1 H1) {b : Addr} (h : H1 b = none) : H b = none := by
  cases z : H b with
  | none => rfl
  | some o =>
    obtain ⟨o1, e1⟩ := a.th b o z
    rw [h] at e1
    cases e1
theorem frozen_free (s : Same F H) {b : Addr} (h : H b = none) : F b = none := by
  cases z : F b with
  | none => rfl
  | some o =>
    rw [s b o z] at h
    cases h
theorem same_new {p : Addr} {o : HO} (h : H p = none) : Same H (upd H p o) := fun b x e => by
  rw [upd_ne (ne_of_none e h)]
  exact e
/-- a new object, frozen -/
theorem Step.new (s : Same F H) (w : OwnOk K F H O) {p : Addr} {o : HO} (h : H p = none) : Step K O F H O (upd F p o) (upd H p o) := by
  have hF := frozen_free s h
  refine ⟨same_new hF, fun b x e => ?_, fun b x e _ => ?_, fun b x e => ⟨x, same_new h b x e⟩, ⟨w.nd, fun q c hq => ?_⟩, fun _ hb => .inl hb⟩
  · by_cases e1 : b = p
    · subst e1
      rw [upd_same] at e ⊢
      exact e
    · rw [upd_ne e1] at e ⊢
      exact s b x e
  · have e1 : b ≠ p := ne_of_none e h
    exact ⟨by rw [upd_ne e1]; exact e, upd_ne e1⟩
  · obtain ⟨h1, x, h2, h3⟩ := w.at_ q c hq
    have e1 : q ≠ p := ne_of_none h2 h
    exact ⟨by rw [upd_ne e1]; exact h1, x, by rw [upd_ne e1]; exact h2, h3.mono (same_new hF)⟩
/-- a new object, owned -/
theorem Step.newO (s : Same F H) (w : OwnOk K F H O) {p : Addr} {o : HO} {c : Oc} (h : H p = none) (hc : OcOk K F o c) : Step K O F H ((p, c) :: O) F (upd H p o) := by
  have hF := frozen_free s h
  have sh : Same H (upd H p o) := same_new h
  refine ⟨Same.refl F, s.trans sh, fun b x e _ => ⟨sh b x e, rfl⟩, fun b x e => ⟨x, sh b x e⟩, ⟨?_, fun q c' hq => ?_⟩, fun b hb => ?_⟩
  · refine List.nodup_cons.mpr ⟨fun hm => ?_, w.nd⟩
    obtain ⟨⟨q, c'⟩, hq, e⟩ := List.mem_map.mp hm
    obtain ⟨_, x, h2, _⟩ := w.at_ q c' hq
    have e' : q = p := e
    rw [e', h] at h2
    cases h2
  · rcases List.mem_cons.mp hq with e | hq
    · cases e
      exact ⟨hF, o, upd_same, hc⟩
    · obtain ⟨h1, x, h2, h3⟩ := w.at_ q c' hq
      exact ⟨h1, x, sh _ _ h2, h3⟩
  · rcases List.mem_cons.mp hb with e | hb
    · exact .inr (by rw [e]; exact h)
    · exact .inl hb
theorem own_get (w : OwnOk K F H O) {i : Nat} {p : Addr} {c : Oc} (e : O[i]? = some (p, c)) : F p = none ∧ ∃ o, H p = some o ∧ OcOk K F o c := w.at_ p c (List.mem_of_getElem? e)
theorem dom_set {O : Own} {i : Nat} {p : Addr} {c c' : Oc} (e : O[i]? = some (p, c)) : dom (O.set i (p, c')) = dom O := by
  show (O.set i (p, c')).map (·.1) = O.map (·.1)
  rw [List.map_set]
  refine List.ext_getElem? fun j => ?_
  by_cases hj : i = j
  · subst hj
    have hl : i < (O.map (·.1)).length := by
      rw [List.length_map]
      exact (List.getElem?_eq_some_iff.mp e).1
    rw [List.getElem?_set_self hl, List.getElem?_map, e]
    rfl
  · rw [List.getElem?_set_ne hj]
/-- an owned object is written -/
theorem Step.write (s : Same F H) (w : OwnOk K F H O) {i : Nat} {p : Addr} {c c' : Oc} {o : HO} (e : O[i]? = some (p, c)) (hc : OcOk K F o c') : Step K O F H (O.set i (p, c')) F (upd H p o) := by
  obtain ⟨hF, x0, hx, _⟩ := own_get w e
  have ed : dom (O.set i (p, c')) = dom O := dom_set e
  have hp : p ∈ dom O := List.mem_map.mpr ⟨(p, c), List.mem_of_getElem? e, rfl⟩
  refine ⟨Same.refl F, fun b x eb => ?_, fun b x eb hb => ?_, fun b x eb => ?_, ⟨by rw [ed]; exact w.nd, fun q c2 hq => ?_⟩, fun b hb => .inl (by rw [← ed]; exact hb)⟩
  · rw [upd_ne (ne_of_none eb hF)]
    exact s b x eb
  · have hne : b ≠ p := fun z => hb (by rw [z]; exact hp)
    exact ⟨by rw [upd_ne hne]; exact eb, rfl⟩
  · by_cases z : b = p
    · subst z
      exact ⟨o, upd_same⟩
    · exact ⟨x, by rw [upd_ne z]; exact eb⟩
  · obtain ⟨j, hj, ej⟩ := List.getElem_of_mem hq
    have hj2 : (O.set i (p, c'))[j]? = some (q, c2) := by rw [List.getElem?_eq_getElem hj, ej]
    by_cases hij : i = j
    · subst hij
      rw [List.getElem?_set_self (List.getElem?_eq_some_iff.mp e).1] at hj2
      cases hj2
      exact ⟨hF, o, upd_same, hc⟩
    · rw [List.getElem?_set_ne hij] at hj2
      obtain ⟨h1, x, h2, h3⟩ := own_get w hj2
      have hne : q ≠ p := fun z => by
        subst z
        have a1 : (dom O)[i]? = some q := by
          show (O.map (·.1))[i]? = _
          rw [List.getElem?_map, e]
          rfl
        have a2 : (dom O)[j]? = some q := by
          show (O.map (·.1))[j]? = _
          rw [List.getElem?_map, hj2]
          rfl
        obtain ⟨l1, g1⟩ := List.getElem?_eq_some_iff.mp a1
        obtain ⟨l2, g2⟩ := List.getElem?_eq_some_iff.mp a2
        exact hij ((List.getElem_inj w.nd).mp (g1.trans g2.symm))
      exact ⟨h1, x, by rw [upd_ne hne]; exact h2, h3⟩
/-- an owned list is frozen: data from then on -/
theorem Step.freeze (s : Same F H) (w : OwnOk K F H O) {i : Nat} {p : Addr} {ds : List PyData} (e : O[i]? = some (p, .lst ds)) :
    ∃ F', Step K O F H (O.eraseIdx i) F' H ∧ Dp K F' (.ref p) (.list ds) := by
  obtain ⟨hF, x0, hx, vs, ex, hv⟩ := own_get w e
  subst ex
  have sf : Same F (upd F p (.lst vs)) := same_new hF
  refine ⟨upd F p (.lst vs), ⟨sf, fun b x eb => ?_, fun b x eb hb => ?_, fun b x eb => ⟨x, eb⟩, ⟨?_, fun q c2 hq => ?_⟩, fun b hb => .inl ?_⟩, .lst (SqL.of upd_same) (dpMonoAll sf ds vs hv)⟩
  · by_cases z : b = p
    · subst z
      rw [upd_same] at eb
      cases eb
      exact hx
    · rw [upd_ne z] at eb
      exact s b x eb
  · have hp : p ∈ dom O := List.mem_map.mpr ⟨_, List.mem_of_getElem? e, rfl⟩
    exact ⟨eb, upd_ne fun z => hb (by rw [z]; exact hp)⟩
  · exact List.Nodup.sublist (List.Sublist.map _ (List.eraseIdx_sublist _ _)) w.nd
  · have hm : (q, c2) ∈ O := List.mem_of_mem_eraseIdx hq
    obtain ⟨h1, x, h2, h3⟩ := w.at_ q c2 hm
    have hne : q ≠ p := fun z => by
      subst z
      obtain ⟨j, hj, ej⟩ := List.getElem_of_mem hq
      have a0 : (dom O)[i]? = some q := by
        show (O.map (·.1))[i]? = _
        rw [List.getElem?_map, e]
        rfl
      have hj2 : (O.eraseIdx i)[j]? = some (q, c2) := by rw [List.getElem?_eq_getElem hj, ej]
      rw [List.getElem?_eraseIdx] at hj2
      obtain ⟨l1, g1⟩ := List.getElem?_eq_some_iff.mp a0
      split at hj2
      · rename_i hlt
        have a2 : (dom O)[j]? = some q := by
          show (O.map (·.1))[j]? = _
          rw [List.getElem?_map, hj2]
          rfl
        obtain ⟨l2, g2⟩ := List.getElem?_eq_some_iff.mp a2
        have := (List.getElem_inj w.nd).mp (g1.trans g2.symm)
        omega
      · rename_i hlt
        have a2 : (dom O)[j + 1]? = some q := by
          show (O.map (·.1))[j + 1]? = _
          rw [List.getElem?_map, hj2]
          rfl
        obtain ⟨l2, g2⟩ := List.getElem?_eq_some_iff.mp a2
        have := (List.getElem_inj w.nd).mp (g1.trans g2.symm)
        omega
    exact ⟨by rw [upd_ne hne]; exact h1, x, h2, h3.mono sf⟩
  · obtain ⟨z, hz, ez⟩ := List.mem_map.mp hb
    exact List.mem_map.mpr ⟨z, List.mem_of_mem_eraseIdx hz, ez⟩
/-- some owned objects are no longer looked after -/
theorem OwnOk.sub (w : OwnOk K F H O) (h : O'.Sublist O) : OwnOk K F H O' :=
  ⟨List.Nodup.sublist (List.Sublist.map _ h) w.nd, fun p c hp => w.at_ p c (h.subset hp)⟩
theorem OwnOk.perm (w : OwnOk K F H O) (h : O.Perm O') : OwnOk K F H O' :=
  ⟨((h.map _).nodup_iff).mp w.nd, fun p c hp => w.at_ p c (h.mem_iff.mpr hp)⟩
theorem Step.drop (s : Same F H) (w : OwnOk K F H O) (h : O'.Sublist O) : Step K O F H O' F H :=
  ⟨Same.refl F, s, fun _ _ e _ => ⟨e, rfl⟩, fun _ o e => ⟨o, e⟩, w.sub h, fun _ hb => .inl ((List.Sublist.map _ h).subset hb)⟩
theorem Step.perm (s : Same F H) (w : OwnOk K F H O) (h : O.Perm O') : Step K O F H O' F H :=
  ⟨Same.refl F, s, fun _ _ e _ => ⟨e, rfl⟩, fun _ o e => ⟨o, e⟩, w.perm h, fun _ hb => .inl ((h.map _).mem_iff.mpr hb)⟩
/-- a part of what is owned is handed over; the rest stays -/
theorem Step.frame {Oa Ob Oa' : Own} (w : OwnOk K F H (Oa ++ Ob)) (a : Step K Oa F H Oa' F' H') : Step K (Oa ++ Ob) F H (Oa' ++ Ob) F' H' := by
  have ed : dom (Oa ++ Ob) = dom Oa ++ dom Ob := List.map_append
  have nd := w.nd
  rw [ed] at nd
  obtain ⟨n1, n2, n3⟩ := List.nodup_append.mp nd
  have keep : ∀ p c, (p, c) ∈ Ob → F' p = none ∧ ∃ o, H' p = some o ∧ OcOk K F' o c := fun p c hp => by
    obtain ⟨h1, x, h2, h3⟩ := w.at_ p c (List.mem_append_right _ hp)
    have hn : p ∉ dom Oa := fun z => n3 p z p (List.mem_map.mpr ⟨_, hp, rfl⟩) rfl
    obtain ⟨e1, e2⟩ := a.kp p x h2 hn
    exact ⟨e2.trans h1, x, e1, h3.mono a.ff⟩
  refine ⟨a.ff, a.fh, fun b o e hb => a.kp b o e fun z => hb (by rw [ed]; exact List.mem_append_left _ z), a.th, ⟨?_, fun p c hp => ?_⟩, fun b hb => ?_⟩
  · show ((Oa' ++ Ob).map (·.1)).Nodup
    rw [List.map_append]
    refine List.nodup_append.mpr ⟨a.own.nd, n2, fun p hp q hq e => ?_⟩
    subst e
    obtain ⟨⟨p', c⟩, hq', e'⟩ := List.mem_map.mp hq
    have e'' : p' = p := e'
    subst e''
    rcases a.sub p' hp with z | z
    · exact n3 p' z p' hq rfl
    · obtain ⟨_, x, h2, _⟩ := w.at_ p' c (List.mem_append_right _ hq')
      rw [z] at h2
      cases h2
  · rcases List.mem_append.mp hp with hp | hp
    · exact a.own.at_ p c hp
    · exact keep p c hp
  · have hb' : b ∈ dom Oa' ++ dom Ob := by
      have e2 : dom (Oa' ++ Ob) = dom Oa' ++ dom Ob := List.map_append
      rw [← e2]
      exact hb
    rcases List.mem_append.mp hb' with z | z
    · rcases a.sub b z with q | q
      · exact .inl (by rw [ed]; exact List.mem_append_left _ q)
      · exact .inr q
    · exact .inl (by rw [ed]; exact List.mem_append_right _ z)
end
end AL

namespace AL
open PySem PySem.Spec PyProof.Rows L2
def isNoneD : PyData → Bool
  | .none => true
  | _ => false
/-! ### the judgements: what a reading comes to, told by data alone -/
abbrev PS1 := Sl → Own → Prop
def Ev (K : PySem.W.Frag) (t : TE) (O : Own) (ρ : List Sl) (P : PS1) : Prop :=
  ∀ (F H : Hp) (σ : L2.St) (Q : VK), Same F H → ROk K F σ ρ → OwnOk K F H O → (∀ v F' H' s O', Step K O F H O' F' H' → VOk K F' v s → P s O' → Q v H') → t σ H Q
def EvT (K : PySem.W.Frag) (t : TT) (O : Own) (ρ : List Sl) (P : Bool → Own → Prop) : Prop :=
  ∀ (F H : Hp) (σ : L2.St) (Q : Bool → Hp → Prop), Same F H → ROk K F σ ρ → OwnOk K F H O → (∀ b F' H' O', Step K O F H O' F' H' → P b O' → Q b H') → t σ H Q
inductive VsOk (K : PySem.W.Frag) (F : Hp) : List V → List Sl → Prop
  | nil : VsOk K F [] []
  | cons {v : V} {vs : List V} {s : Sl} {ss : List Sl} : VOk K F v s → VsOk K F vs ss → VsOk K F (v :: vs) (s :: ss)
def EvA (K : PySem.W.Frag) (t : TA) (O : Own) (ρ : List Sl) (P : List Sl → Own → Prop) : Prop :=
  ∀ (F H : Hp) (σ : L2.St) (Q : List V → Hp → Prop), Same F H → ROk K F σ ρ → OwnOk K F H O → (∀ vs F' H' ss O', Step K O F H O' F' H' → VsOk K F' vs ss → P ss O' → Q vs H') → t σ H Q
def EvO (K : PySem.W.Frag) (t : TO) (O : Own) (ρ : List Sl) (P : Option Int → Own → Prop) : Prop :=
  ∀ (F H : Hp) (σ : L2.St) (Q : Option Int → Hp → Prop), Same F H → ROk K F σ ρ → OwnOk K F H O → (∀ b F' H' O', Step K O F H O' F' H' → P b O' → Q b H') → t σ H Q
/-- what a walk gives, whatever else the heap comes to hold -/
def IterOk (K : PySem.W.Frag) (F : Hp) (J : It) (items : List PyData) : Prop :=
  ∀ (F2 H2 : Hp), Same F F2 → Same F2 H2 → (∀ i, i < items.length → J.go i H2) ∧ J.stop items.length H2 ∧
    ∀ i x H3, i < items.length → J.yld i H2 x H3 → ∃ d F3, items[i]? = some d ∧ Same F2 F3 ∧ Same F3 H3 ∧ (∀ b o, H2 b = some o → H3 b = some o ∧ F3 b = F2 b) ∧ Dp K F3 x d
def EvI (K : PySem.W.Frag) (t : TI) (O : Own) (ρ : List Sl) (P : List PyData → Own → Prop) : Prop :=
  ∀ (F H : Hp) (σ : L2.St) (R : It → Hp → Prop), Same F H → ROk K F σ ρ → OwnOk K F H O → (∀ J F' H' ds O', Step K O F H O' F' H' → IterOk K F' J ds → P ds O' → R J H') → t σ H R
def Gw (K : PySem.W.Frag) (g : TG) (s : Sl) (O : Own) (ρ : List Sl) (P : List Sl → Own → Prop) : Prop :=
  ∀ (F H : Hp) (σ : L2.St) (v : V) (Q : L2.St → Hp → Prop), Same F H → ROk K F σ ρ → OwnOk K F H O → VOk K F v s → (∀ σ' F' H' ρ' O', Step K O F H O' F' H' → ROk K F' σ' ρ' → P ρ' O' → Q σ' H') → g v σ H Q
def Gws (K : PySem.W.Frag) (g : TGs) (ss : List Sl) (O : Own) (ρ : List Sl) (P : List Sl → Own → Prop) : Prop :=
  ∀ (F H : Hp) (σ : L2.St) (vs : List V) (Q : L2.St → Hp → Prop), Same F H → ROk K F σ ρ → OwnOk K F H O → VsOk K F vs ss → (∀ σ' F' H' ρ' O', Step K O F H O' F' H' → ROk K F' σ' ρ' → P ρ' O' → Q σ' H') → g vs σ H Q
/-- what is wanted behind a statement -/
structure Pst where
  nx : List Sl → Own → Prop
  rt : PS1
  bk : List Sl → Own → Prop := fun _ _ => False
  ct : List Sl → Own → Prop := fun _ _ => False
structure EndsOk (K : PySem.W.Frag) (O : Own) (F H : Hp) (P : Pst) (D : Ends) : Prop where
  nx : ∀ σ' F' H' ρ' O', Step K O F H O' F' H' → ROk K F' σ' ρ' → P.nx ρ' O' → D.nx σ' H'
  rt : ∀ v F' H' s O', Step K O F H O' F' H' → VOk K F' v s → P.rt s O' → D.rt v H'
  bk : ∀ σ' F' H' ρ' O', Step K O F H O' F' H' → ROk K F' σ' ρ' → P.bk ρ' O' → D.bk σ' H'
  ct : ∀ σ' F' H' ρ' O', Step K O F H O' F' H' → ROk K F' σ' ρ' → P.ct ρ' O' → D.ct σ' H'
def StW (K : PySem.W.Frag) (t : TS) (O : Own) (ρ : List Sl) (P : Pst) : Prop :=
  ∀ (F H : Hp) (σ : L2.St) (D : Ends), Same F H → ROk K F σ ρ → OwnOk K F H O → EndsOk K O F H P D → t D σ H
section
variable {K : PySem.W.Frag} {O : Own} {ρ : List Sl} {P : PS1} {F H F' H' : Hp} {σ : L2.St}
theorem VsOk.mono (e : Same F F') : ∀ {vs : List V} {ss : List Sl}, VsOk K F vs ss → VsOk K F' vs ss
  | _, _, .nil => .nil
  | _, _, .cons h t => .cons (h.mono e) (VsOk.mono e t)
theorem VsOk.data : ∀ {vs : List V} {ds : List PyData}, VsOk K F vs (ds.map Sl.d) → DpAll K F vs ds
  | _, [], h => by cases h; exact .nil
  | _, d :: ds, h => by
    cases h with
    | cons h1 h2 => exact .cons h1 (VsOk.data h2)
theorem VsOk.of_data : ∀ {vs : List V} {ds : List PyData}, DpAll K F vs ds → VsOk K F vs (ds.map Sl.d)
  | _, [], h => by cases h; exact .nil
  | _, d :: ds, h => by
    cases h with
    | cons h1 h2 => exact .cons h1 (VsOk.of_data h2)
theorem VsOk.len : ∀ {vs : List V} {ss : List Sl}, VsOk K F vs ss → vs.length = ss.length
  | _, _, .nil => rfl
  | _, _, .cons _ t => congrArg (· + 1) (VsOk.len t)
theorem Ev.mono {t : TE} {P' : PS1} (h : Ev K t O ρ P) (hp : ∀ s O', P s O' → P' s O') : Ev K t O ρ P' :=
  fun F H σ Q s r w k => h F H σ Q s r w fun v F' H' s O' st vo p => k v F' H' s O' st vo (hp s O' p)
theorem EvT.mono {t : TT} {P P' : Bool → Own → Prop} (h : EvT K t O ρ P) (hp : ∀ s O', P s O' → P' s O') : EvT K t O ρ P' :=
  fun F H σ Q s r w k => h F H σ Q s r w fun v F' H' O' st p => k v F' H' O' st (hp v O' p)
theorem EvA.mono {t : TA} {P P' : List Sl → Own → Prop} (h : EvA K t O ρ P) (hp : ∀ s O', P s O' → P' s O') : EvA K t O ρ P' :=
  fun F H σ Q s r w k => h F H σ Q s r w fun v F' H' s O' st vo p => k v F' H' s O' st vo (hp s O' p)
theorem EndsOk.from {O' : Own} {P : Pst} {D : Ends} (e : EndsOk K O F H P D) (a : Step K O F H O' F' H') : EndsOk K O' F' H' P D :=
  ⟨fun σ' F2 H2 ρ' O2 st r p => e.nx σ' F2 H2 ρ' O2 (a.trans st) r p, fun v F2 H2 s O2 st r p => e.rt v F2 H2 s O2 (a.trans st) r p, fun σ' F2 H2 ρ' O2 st r p => e.bk σ' F2 H2 ρ' O2 (a.trans st) r p, fun σ' F2 H2 ρ' O2 st r p => e.ct σ' F2 H2 ρ' O2 (a.trans st) r p⟩
theorem StW.mono {t : TS} {P P' : Pst} (h : StW K t O ρ P) (hn : ∀ ρ' O', P.nx ρ' O' → P'.nx ρ' O') (hr : ∀ s O', P.rt s O' → P'.rt s O') (hb : ∀ ρ' O', P.bk ρ' O' → P'.bk ρ' O') (hc : ∀ ρ' O', P.ct ρ' O' → P'.ct ρ' O') : StW K t O ρ P' :=
  fun F H σ D s r w e => h F H σ D s r w ⟨fun σ' F2 H2 ρ' O2 st r p => e.nx σ' F2 H2 ρ' O2 st r (hn _ _ p), fun v F2 H2 s O2 st r p => e.rt v F2 H2 s O2 st r (hr _ _ p), fun σ' F2 H2 ρ' O2 st r p => e.bk σ' F2 H2 ρ' O2 st r (hb _ _ p), fun σ' F2 H2 ρ' O2 st r p => e.ct σ' F2 H2 ρ' O2 st r (hc _ _ p)⟩

/-! ### expressions -/
theorem ev_var {i : Nat} {s : Sl} (e : ρ[i]? = some s) (hs : s ≠ .u) (p : P s O) : Ev K (tVar i) O ρ P := fun F H σ Q sm r w k => by
  obtain ⟨v, e1, e2⟩ := r.get e hs
  exact ⟨v, e1, k v F H s O (Step.refl sm w) e2 p⟩
theorem ev_vd {i : Nat} {d : PyData} (e : ρ[i]? = some (.d d)) (p : P (.d d) O) : Ev K (tVar i) O ρ P := ev_var e (fun z => nomatch z) p
theorem ev_vv {i : Nat} {v : V} (e : ρ[i]? = some (.v v)) (p : P (.v v) O) : Ev K (tVar i) O ρ P := ev_var e (fun z => nomatch z) p
theorem ev_c {v : V} (p : P (.v v) O) : Ev K (tC v) O ρ P := fun F H σ Q sm r w k => k v F H (.v v) O (Step.refl sm w) rfl p
theorem ev_cd {v : V} {d : PyData} (h : ∀ F, Dp K F v d) (p : P (.d d) O) : Ev K (tC v) O ρ P := fun F H σ Q sm r w k => k v F H (.d d) O (Step.refl sm w) (h F) p
theorem ev_int {i : Int} (p : P (.d (.int i)) O) : Ev K (tC (.int i)) O ρ P := ev_cd (fun _ => .int i) p
theorem ev_bl {b : Bool} (p : P (.d (.bool b)) O) : Ev K (tC (.bl b)) O ρ P := ev_cd (fun _ => .bl b) p
theorem ev_non (p : P (.d .none) O) : Ev K (tC .non) O ρ P := ev_cd (fun _ => .non) p
theorem ev_str {x : Str} (p : P (.d (.str x)) O) : Ev K (tC (.str x)) O ρ P := ev_cd (fun _ => .str x) p
/-- two parts, one after the other -/
theorem ev_op {r : R2} {ta tb : TE} {Pa : PS1} (ha : Ev K ta O ρ Pa)
    (hb : ∀ a O1, Pa a O1 → Ev K tb O1 ρ fun b O2 => ∀ F H σ x y Q, Same F H → ROk K F σ ρ → OwnOk K F H O2 → VOk K F x a → VOk K F y b → (∀ v F' H' s O', Step K O2 F H O' F' H' → VOk K F' v s → P s O' → Q v H') → r x y H Q) : Ev K (tOp r ta tb) O ρ P :=
  fun F H σ Q sm rr w k => ha F H σ _ sm rr w fun x F1 H1 a O1 st1 v1 p1 =>
    hb a O1 p1 F1 H1 σ _ st1.fh (rr.mono st1.ff) st1.own fun y F2 H2 b O2 st2 v2 p2 =>
      p2 F2 H2 σ x y Q st2.fh (rr.mono (st1.ff.trans st2.ff)) st2.own (v1.mono st2.ff) v2 fun v F' H' s O' st3 v3 p3 => k v F' H' s O' ((st1.trans st2).trans st3) v3 p3
theorem ev_un {r : V → Hp → VK → Prop} {ta : TE} (ha : Ev K ta O ρ fun a O1 => ∀ F H x Q, Same F H → OwnOk K F H O1 → VOk K F x a → (∀ v F' H' s O', Step K O1 F H O' F' H' → VOk K F' v s → P s O' → Q v H') → r x H Q) : Ev K (tUn r ta) O ρ P :=
  fun F H σ Q sm rr w k => ha F H σ _ sm rr w fun x F1 H1 a O1 st1 v1 p1 => p1 F1 H1 x Q st1.fh st1.own v1 fun v F' H' s O' st3 v3 p3 => k v F' H' s O' (st1.trans st3) v3 p3
/-- ints -/
theorem ev_i {C : Int → Int → Prop} {g : Int → Int → V} {ta tb : TE} {G : Int → Int → PyData} (hg : ∀ i j F, Dp K F (g i j) (G i j))
    (ha : Ev K ta O ρ fun a O1 => ∃ i, a = .d (.int i) ∧ Ev K tb O1 ρ fun b O2 => ∃ j, b = .d (.int j) ∧ C i j ∧ P (.d (G i j)) O2) : Ev K (tOp (rI C g) ta tb) O ρ P :=
  ev_op ha fun a O1 ⟨i, ea, hb⟩ => hb.mono fun b O2 ⟨j, eb, c, p⟩ F H σ x y Q sm rr w hx hy k => by
    subst ea
    subst eb
    cases hx
    cases hy
    exact ⟨i, j, rfl, rfl, c, k _ F H (.d (G i j)) O2 (Step.refl sm w) (hg i j F) p⟩
theorem ev_i0 {g : Int → Int → V} {ta tb : TE} {G : Int → Int → PyData} (hg : ∀ i j F, Dp K F (g i j) (G i j))
    (ha : Ev K ta O ρ fun a O1 => ∃ i, a = .d (.int i) ∧ Ev K tb O1 ρ fun b O2 => ∃ j, b = .d (.int j) ∧ P (.d (G i j)) O2) : Ev K (tOp (rI0 g) ta tb) O ρ P :=
  ev_op ha fun a O1 ⟨i, ea, hb⟩ => hb.mono fun b O2 ⟨j, eb, p⟩ F H σ x y Q sm rr w hx hy k => by
    subst ea
    subst eb
    cases hx
    cases hy
    exact ⟨i, j, rfl, rfl, k _ F H (.d (G i j)) O2 (Step.refl sm w) (hg i j F) p⟩
theorem ev_add {ta tb : TE} (h : Ev K ta O ρ fun a O1 => ∃ i, a = .d (.int i) ∧ Ev K tb O1 ρ fun b O2 => ∃ j, b = .d (.int j) ∧ P (.d (.int (i + j))) O2) : Ev K (tOp (rI0 fun i j => .int (i + j)) ta tb) O ρ P := ev_i0 (fun _ _ _ => .int _) h
theorem ev_sub {ta tb : TE} (h : Ev K ta O ρ fun a O1 => ∃ i, a = .d (.int i) ∧ Ev K tb O1 ρ fun b O2 => ∃ j, b = .d (.int j) ∧ P (.d (.int (i - j))) O2) : Ev K (tOp (rI0 fun i j => .int (i - j)) ta tb) O ρ P := ev_i0 (fun _ _ _ => .int _) h
theorem ev_mul {ta tb : TE} (h : Ev K ta O ρ fun a O1 => ∃ i, a = .d (.int i) ∧ Ev K tb O1 ρ fun b O2 => ∃ j, b = .d (.int j) ∧ CMul i j ∧ P (.d (.int (i * j))) O2) : Ev K (tOp (rI CMul fun i j => .int (i * j)) ta tb) O ρ P := ev_i (fun _ _ _ => .int _) h
theorem ev_mod {ta tb : TE} (h : Ev K ta O ρ fun a O1 => ∃ i, a = .d (.int i) ∧ Ev K tb O1 ρ fun b O2 => ∃ j, b = .d (.int j) ∧ 0 < j ∧ P (.d (.int (i % j))) O2) : Ev K (tOp (rI (fun _ j => 0 < j) fun i j => .int (i % j)) ta tb) O ρ P := ev_i (fun _ _ _ => .int _) h
theorem ev_fdiv {ta tb : TE} (h : Ev K ta O ρ fun a O1 => ∃ i, a = .d (.int i) ∧ Ev K tb O1 ρ fun b O2 => ∃ j, b = .d (.int j) ∧ CDiv i j ∧ P (.d (.int (i / j))) O2) : Ev K (tOp (rI CDiv fun i j => .int (i / j)) ta tb) O ρ P := ev_i (fun _ _ _ => .int _) h
theorem ev_lt {ta tb : TE} (h : Ev K ta O ρ fun a O1 => ∃ i, a = .d (.int i) ∧ Ev K tb O1 ρ fun b O2 => ∃ j, b = .d (.int j) ∧ P (.d (.bool (decide (i < j)))) O2) : Ev K (tOp (rI0 fun i j => .bl (decide (i < j))) ta tb) O ρ P := ev_i0 (fun _ _ _ => .bl _) h
theorem ev_le {ta tb : TE} (h : Ev K ta O ρ fun a O1 => ∃ i, a = .d (.int i) ∧ Ev K tb O1 ρ fun b O2 => ∃ j, b = .d (.int j) ∧ P (.d (.bool (decide (i ≤ j)))) O2) : Ev K (tOp (rI0 fun i j => .bl (decide (i ≤ j))) ta tb) O ρ P := ev_i0 (fun _ _ _ => .bl _) h
theorem ev_neg {ta : TE} (h : Ev K ta O ρ fun a O1 => ∃ i, a = .d (.int i) ∧ P (.d (.int (-i))) O1) : Ev K (tUn (rU fun i => .int (-i)) ta) O ρ P :=
  ev_un (h.mono fun a O1 ⟨i, ea, p⟩ F H x Q sm w hx k => by
    subst ea
    cases hx
    exact ⟨i, rfl, k _ F H (.d (.int _)) O1 (Step.refl sm w) (Dp.int _) p⟩)
/-- == and != of data -/
theorem ev_eqD {ta tb : TE} (h : Ev K ta O ρ fun a O1 => ∃ d, a = .d d ∧ SeqAt.shaped d = true ∧ Ev K tb O1 ρ fun b O2 => ∃ e, b = .d e ∧ SeqAt.shaped e = true ∧ P (.d (.bool (PyData.eqv d e))) O2) : Ev K (tOp (rEqD K) ta tb) O ρ P :=
  ev_op h fun a O1 ⟨d, ea, sd, hb⟩ => hb.mono fun b O2 ⟨e, eb, se, p⟩ F H σ x y Q sm rr w hx hy k => by
    subst ea
    subst eb
    exact ⟨d, e, dpMono sm _ _ hx, dpMono sm _ _ hy, sd, se, k _ F H (.d (.bool _)) O2 (Step.refl sm w) (Dp.bl _) p⟩
theorem ev_neD {ta tb : TE} (h : Ev K ta O ρ fun a O1 => ∃ d, a = .d d ∧ SeqAt.shaped d = true ∧ Ev K tb O1 ρ fun b O2 => ∃ e, b = .d e ∧ SeqAt.shaped e = true ∧ P (.d (.bool (!PyData.eqv d e))) O2) : Ev K (tOp (rNeD K) ta tb) O ρ P :=
  ev_op h fun a O1 ⟨d, ea, sd, hb⟩ => hb.mono fun b O2 ⟨e, eb, se, p⟩ F H σ x y Q sm rr w hx hy k => by
    subst ea
    subst eb
    exact ⟨d, e, dpMono sm _ _ hx, dpMono sm _ _ hy, sd, se, k _ F H (.d (.bool _)) O2 (Step.refl sm w) (Dp.bl _) p⟩
theorem ev_isN {ta tb : TE} (h : Ev K ta O ρ fun a O1 => ∃ d, a = .d d ∧ Ev K tb O1 ρ fun b O2 => b = .d .none ∧ P (.d (.bool (isNoneD d))) O2) : Ev K (tOp (fun x y H Q => y = .non ∧ Q (.bl (decide (x = .non))) H) ta tb) O ρ P :=
  ev_op h fun a O1 ⟨d, ea, hb⟩ => hb.mono fun b O2 ⟨eb, p⟩ F H σ x y Q sm rr w hx hy k => by
    subst ea
    subst eb
    cases hy
    have e : decide (x = V.non) = isNoneD d := by
      cases hx <;> first | rfl | exact decide_eq_false (fun z => nomatch z)
    exact ⟨rfl, by rw [e]; exact k _ F H (.d (.bool _)) O2 (Step.refl sm w) (Dp.bl _) p⟩
theorem ev_notN {ta tb : TE} (h : Ev K ta O ρ fun a O1 => ∃ d, a = .d d ∧ Ev K tb O1 ρ fun b O2 => b = .d .none ∧ P (.d (.bool (!isNoneD d))) O2) : Ev K (tOp (fun x y H Q => y = .non ∧ Q (.bl (!decide (x = .non))) H) ta tb) O ρ P :=
  ev_op h fun a O1 ⟨d, ea, hb⟩ => hb.mono fun b O2 ⟨eb, p⟩ F H σ x y Q sm rr w hx hy k => by
    subst ea
    subst eb
    cases hy
    have e : decide (x = V.non) = isNoneD d := by
      cases hx <;> first | rfl | exact decide_eq_false (fun z => nomatch z)
    exact ⟨rfl, by rw [e]; exact k _ F H (.d (.bool _)) O2 (Step.refl sm w) (Dp.bl _) p⟩
theorem ev_isB {ta tb : TE} (h : Ev K ta O ρ fun a O1 => ∃ i, a = .d (.bool i) ∧ Ev K tb O1 ρ fun b O2 => ∃ j, b = .d (.bool j) ∧ P (.d (.bool (decide (i = j)))) O2) : Ev K (tOp rIsB ta tb) O ρ P :=
  ev_op h fun a O1 ⟨d, ea, hb⟩ => hb.mono fun b O2 ⟨e, eb, p⟩ F H σ x y Q sm rr w hx hy k => by
    subst ea
    subst eb
    cases hx
    cases hy
    exact ⟨d, e, rfl, rfl, k _ F H (.d (.bool _)) O2 (Step.refl sm w) (Dp.bl _) p⟩
theorem ev_notB {ta tb : TE} (h : Ev K ta O ρ fun a O1 => ∃ i, a = .d (.bool i) ∧ Ev K tb O1 ρ fun b O2 => ∃ j, b = .d (.bool j) ∧ P (.d (.bool (!decide (i = j)))) O2) : Ev K (tOp rNotB ta tb) O ρ P :=
  ev_op h fun a O1 ⟨d, ea, hb⟩ => hb.mono fun b O2 ⟨e, eb, p⟩ F H σ x y Q sm rr w hx hy k => by
    subst ea
    subst eb
    cases hx
    cases hy
    exact ⟨d, e, rfl, rfl, k _ F H (.d (.bool _)) O2 (Step.refl sm w) (Dp.bl _) p⟩
/-- a < b < c of ints, by Bool functions f, g -/
theorem ev_chain {f g : Int → Int → Bool} {ta tb tc : TE} (h : Ev K ta O ρ fun a O1 => ∃ i, a = .d (.int i) ∧ Ev K tb O1 ρ fun b O2 => ∃ j, b = .d (.int j) ∧
    (f i j = true → Ev K tc O2 ρ fun c O3 => ∃ l, c = .d (.int l) ∧ P (.d (.bool (g j l))) O3) ∧ (f i j = false → P (.d (.bool false)) O2)) :
    Ev K (tChain (rI0 fun i j => .bl (f i j)) (rI0 fun i j => .bl (g i j)) ta tb tc) O ρ P :=
  fun F H σ Q sm rr w k => h F H σ _ sm rr w fun x F1 H1 a O1 st1 v1 ⟨i, ea, hb⟩ =>
    hb F1 H1 σ _ st1.fh (rr.mono st1.ff) st1.own fun y F2 H2 b O2 st2 v2 ⟨j, eb, h1, h2⟩ => by
      subst ea
      subst eb
      have hx : x = .int i := by cases v1; rfl
      have hy : y = .int j := by cases v2; rfl
      subst hx
      subst hy
      refine ⟨i, j, rfl, rfl, f i j, rfl, ?_⟩
      cases e : f i j with
      | false => exact k _ F2 H2 (.d (.bool false)) O2 (st1.trans st2) (Dp.bl false) (h2 e)
      | true =>
        refine h1 e F2 H2 σ _ st2.fh (rr.mono (st1.ff.trans st2.ff)) st2.own fun z F3 H3 c O3 st3 v3 ⟨l, ec, p⟩ => ?_
        subst ec
        have hz : z = .int l := by cases v3; rfl
        subst hz
        exact ⟨j, l, rfl, rfl, k _ F3 H3 (.d (.bool _)) O3 ((st1.trans st2).trans st3) (Dp.bl _) p⟩
/-- and, or, not as values of bools; the conditional -/
theorem ev_and {ta tb : TE} (h : Ev K ta O ρ fun a O1 => ∃ c, a = .d (.bool c) ∧ (c = true → Ev K tb O1 ρ P) ∧ (c = false → P (.d (.bool false)) O1)) : Ev K (tAndV ta tb) O ρ P :=
  fun F H σ Q sm rr w k => h F H σ _ sm rr w fun x F1 H1 a O1 st1 v1 ⟨c, ea, h1, h2⟩ => by
    subst ea
    have hx : x = .bl c := by cases v1; rfl
    refine ⟨c, hx, ?_⟩
    cases c with
    | true => exact h1 rfl F1 H1 σ Q st1.fh (rr.mono st1.ff) st1.own fun v F' H' s O' st vo p => k v F' H' s O' (st1.trans st) vo p
    | false => exact k _ F1 H1 (.d (.bool false)) O1 st1 (Dp.bl false) (h2 rfl)
theorem ev_or {ta tb : TE} (h : Ev K ta O ρ fun a O1 => ∃ c, a = .d (.bool c) ∧ (c = false → Ev K tb O1 ρ P) ∧ (c = true → P (.d (.bool true)) O1)) : Ev K (tOrV ta tb) O ρ P :=
  fun F H σ Q sm rr w k => h F H σ _ sm rr w fun x F1 H1 a O1 st1 v1 ⟨c, ea, h1, h2⟩ => by
    subst ea
    have hx : x = .bl c := by cases v1; rfl
    refine ⟨c, hx, ?_⟩
    cases c with
    | false => exact h1 rfl F1 H1 σ Q st1.fh (rr.mono st1.ff) st1.own fun v F' H' s O' st vo p => k v F' H' s O' (st1.trans st) vo p
    | true => exact k _ F1 H1 (.d (.bool true)) O1 st1 (Dp.bl true) (h2 rfl)
theorem ev_not {ta : TE} (h : Ev K ta O ρ fun a O1 => ∃ c, a = .d (.bool c) ∧ P (.d (.bool (!c))) O1) : Ev K (tNotV ta) O ρ P :=
  fun F H σ Q sm rr w k => h F H σ _ sm rr w fun x F1 H1 a O1 st1 v1 ⟨c, ea, h1⟩ => by
    subst ea
    have hx : x = .bl c := by cases v1; rfl
    exact ⟨c, hx, k _ F1 H1 (.d (.bool _)) O1 st1 (Dp.bl _) h1⟩
theorem ev_ite {t : TT} {ta tb : TE} (h : EvT K t O ρ fun c O1 => (c = true → Ev K ta O1 ρ P) ∧ (c = false → Ev K tb O1 ρ P)) : Ev K (tIf t ta tb) O ρ P :=
  fun F H σ Q sm rr w k => h F H σ _ sm rr w fun c F1 H1 O1 st1 ⟨h1, h2⟩ => by
    cases c with
    | true => exact h1 rfl F1 H1 σ Q st1.fh (rr.mono st1.ff) st1.own fun v F' H' s O' st vo p => k v F' H' s O' (st1.trans st) vo p
    | false => exact h2 rfl F1 H1 σ Q st1.fh (rr.mono st1.ff) st1.own fun v F' H' s O' st vo p => k v F' H' s O' (st1.trans st) vo p
/-! ### tests -/
theorem et_b {ta : TE} {P : Bool → Own → Prop} (h : Ev K ta O ρ fun a O1 => ∃ c, a = .d (.bool c) ∧ P c O1) : EvT K (tB ta) O ρ P :=
  fun F H σ Q sm rr w k => h F H σ _ sm rr w fun x F1 H1 a O1 st1 v1 ⟨c, ea, h1⟩ => by
    subst ea
    have hx : x = .bl c := by cases v1; rfl
    exact ⟨c, hx, k c F1 H1 O1 st1 h1⟩
theorem et_test {ta : TE} {P : Bool → Own → Prop} (h : Ev K ta O ρ fun a O1 => ∃ c, a = .d (.bool c) ∧ P c O1) : EvT K (tTest ta) O ρ P := et_b h
theorem et_not {t : TT} {P : Bool → Own → Prop} (h : EvT K t O ρ fun c O1 => P (!c) O1) : EvT K (tNot t) O ρ P :=
  fun F H σ Q sm rr w k => h F H σ _ sm rr w fun c F1 H1 O1 st1 h1 => k (!c) F1 H1 O1 st1 h1
theorem et_and {t u : TT} {P : Bool → Own → Prop} (h : EvT K t O ρ fun c O1 => (c = true → EvT K u O1 ρ P) ∧ (c = false → P false O1)) : EvT K (tAnd t u) O ρ P :=
  fun F H σ Q sm rr w k => h F H σ _ sm rr w fun c F1 H1 O1 st1 ⟨h1, h2⟩ => by
    cases c with
    | true => exact h1 rfl F1 H1 σ Q st1.fh (rr.mono st1.ff) st1.own fun b F' H' O' st p => k b F' H' O' (st1.trans st) p
    | false => exact k false F1 H1 O1 st1 (h2 rfl)
theorem et_or {t u : TT} {P : Bool → Own → Prop} (h : EvT K t O ρ fun c O1 => (c = false → EvT K u O1 ρ P) ∧ (c = true → P true O1)) : EvT K (tOr t u) O ρ P :=
  fun F H σ Q sm rr w k => h F H σ _ sm rr w fun c F1 H1 O1 st1 ⟨h1, h2⟩ => by
    cases c with
    | false => exact h1 rfl F1 H1 σ Q st1.fh (rr.mono st1.ff) st1.own fun b F' H' O' st p => k b F' H' O' (st1.trans st) p
    | true => exact k true F1 H1 O1 st1 (h2 rfl)
/-! ### arguments, displays -/
theorem ea_nil {P : List Sl → Own → Prop} (p : P [] O) : EvA K tNil O ρ P := fun F H σ Q sm rr w k => k [] F H [] O (Step.refl sm w) .nil p
theorem ea_cons {ta : TE} {tr : TA} {P : List Sl → Own → Prop} (h : Ev K ta O ρ fun a O1 => EvA K tr O1 ρ fun ss O2 => P (a :: ss) O2) : EvA K (tCons ta tr) O ρ P :=
  fun F H σ Q sm rr w k => h F H σ _ sm rr w fun x F1 H1 a O1 st1 v1 h1 => h1 F1 H1 σ _ st1.fh (rr.mono st1.ff) st1.own fun xs F2 H2 ss O2 st2 v2 p => k (x :: xs) F2 H2 (a :: ss) O2 (st1.trans st2) (.cons (v1.mono st2.ff) v2) p
/-- *e of data (a tuple, a list) -/
theorem ea_star {te : TE} {t : TA} {P : List Sl → Own → Prop} (h : Ev K te O ρ fun a O1 => ∃ ds, (a = .d (.tuple ds) ∨ a = .d (.list ds)) ∧ EvA K t O1 ρ fun ss O2 => P (ds.map Sl.d ++ ss) O2) : EvA K (StX.tStar K te t) O ρ P :=
  fun F H σ Q sm rr w k => h F H σ _ sm rr w fun x F1 H1 a O1 st1 v1 ⟨ds, ea, h1⟩ => by
    have key : ∃ p xs, x = V.ref p ∧ (SqT K H1 p xs ∨ SqL K H1 p xs) ∧ DpAll K F1 xs ds := by
      rcases ea with ea | ea
      · subst ea
        cases v1 with
        | tup hs ha => exact ⟨_, _, rfl, .inl (Same.tupS st1.fh hs), ha⟩
      · subst ea
        cases v1 with
        | lst hs ha => exact ⟨_, _, rfl, .inr (st1.fh.seq hs), ha⟩
    obtain ⟨p, xs, ex, hq, ha⟩ := key
    refine ⟨p, xs, ex, hq, h1 F1 H1 σ _ st1.fh (rr.mono st1.ff) st1.own fun ys F2 H2 ss O2 st2 v2 p2 => ?_⟩
    refine k (xs ++ ys) F2 H2 _ O2 (st1.trans st2) ?_ p2
    have app : ∀ {xs : List V} {ds : List PyData}, DpAll K F2 xs ds → VsOk K F2 (xs ++ ys) (ds.map Sl.d ++ ss) := by
      intro xs ds hd
      induction ds generalizing xs with
      | nil => cases hd; exact v2
      | cons d ds ih =>
        cases hd with
        | cons g1 g2 => exact .cons g1 (ih g2)
    exact app (dpMonoAll st2.ff _ _ ha)
theorem ev_tup {t : TA} (h : EvA K t O ρ fun ss O1 => ∃ ds, ss = ds.map Sl.d ∧ ds.length ≤ sizeLine ∧ P (.d (.tuple ds)) O1) : Ev K (tTup t) O ρ P :=
  fun F H σ Q sm rr w k => h F H σ _ sm rr w fun xs F1 H1 ss O1 st1 v1 ⟨ds, es, hz, p⟩ => by
    subst es
    have ha := v1.data
    refine ⟨by rw [dpAll_len ha]; exact hz, fun a ha2 => ?_⟩
    have st2 := Step.new (o := .tup xs) st1.fh st1.own ha2
    exact k _ _ _ (.d (.tuple ds)) O1 (st1.trans st2) (Dp.tup (.inl (.inl upd_same)) (dpMonoAll st2.ff _ _ ha)) p
theorem ev_lst {t : TA} (h : EvA K t O ρ fun ss O1 => ∃ ds, ss = ds.map Sl.d ∧ ds.length ≤ sizeLine ∧ P (.d (.list ds)) O1) : Ev K (tLst t) O ρ P :=
  fun F H σ Q sm rr w k => h F H σ _ sm rr w fun xs F1 H1 ss O1 st1 v1 ⟨ds, es, hz, p⟩ => by
    subst es
    have ha := v1.data
    refine ⟨by rw [dpAll_len ha]; exact hz, fun a ha2 => ?_⟩
    have st2 := Step.new (o := .lst xs) st1.fh st1.own ha2
    exact k _ _ _ (.d (.list ds)) O1 (st1.trans st2) (Dp.lst (.inl (.inl upd_same)) (dpMonoAll st2.ff _ _ ha)) p
/-- a new list that one goes on to change -/
theorem ev_lstO {t : TA} (h : EvA K t O ρ fun ss O1 => ∃ ds, ss = ds.map Sl.d ∧ ds.length ≤ sizeLine ∧ ∀ p, P (.v (.ref p)) ((p, .lst ds) :: O1)) : Ev K (tLst t) O ρ P :=
  fun F H σ Q sm rr w k => h F H σ _ sm rr w fun xs F1 H1 ss O1 st1 v1 ⟨ds, es, hz, p⟩ => by
    subst es
    have ha := v1.data
    refine ⟨by rw [dpAll_len ha]; exact hz, fun a ha2 => ?_⟩
    have st2 := Step.newO (o := .lst xs) (c := .lst ds) st1.fh st1.own ha2 ⟨xs, rfl, ha⟩
    exact k _ _ _ _ _ (st1.trans st2) (show VOk K _ (V.ref a) (.v (.ref a)) from rfl) (p a)
/-- what was owned is data from here on -/
theorem ev_freeze {t : TE} (h : Ev K t O ρ fun s O1 => ∃ (i : Nat) (p : Addr) (ds : List PyData), s = .v (.ref p) ∧ O1[i]? = some (p, .lst ds) ∧ P (.d (.list ds)) (O1.eraseIdx i)) : Ev K t O ρ P :=
  fun F H σ Q sm rr w k => h F H σ _ sm rr w fun x F1 H1 ss O1 st1 v1 ⟨i, p, ds, es, eo, hp⟩ => by
    subst es
    have ex : x = .ref p := v1
    subst ex
    obtain ⟨F2, st2, hd⟩ := Step.freeze st1.fh st1.own eo
    exact k _ F2 H1 (.d (.list ds)) _ (st1.trans st2) hd hp
/-! ### calls of built-ins by values: what their reading asks of data -/
/-- a reading of values, told by data -/
def RvD (K : PySem.W.Frag) (r : List V → Hp → VK → Prop) (ss : List Sl) (O : Own) (P : PS1) : Prop :=
  ∀ (F H : Hp) (vs : List V) (Q : VK), Same F H → OwnOk K F H O → VsOk K F vs ss → (∀ v F' H' s O', Step K O F H O' F' H' → VOk K F' v s → P s O' → Q v H') → r vs H Q
theorem ev_cb {r : List V → Hp → VK → Prop} {t : TA} (h : EvA K t O ρ fun ss O1 => RvD K r ss O1 P) : Ev K (tCB r t) O ρ P :=
  fun F H σ Q sm rr w k => h F H σ _ sm rr w fun xs F1 H1 ss O1 st1 v1 h1 => h1 F1 H1 xs Q st1.fh st1.own v1 fun v F' H' s O' st vo p => k v F' H' s O' (st1.trans st) vo p
end
end AL

namespace AL
open PySem PySem.Spec PyProof.Rows L2
/-! ### what a call of values does, told by data: S arguments owned wish -/
abbrev DS := List Sl → Own → PS1 → Prop
def rOf (K : PySem.W.Frag) (S : DS) : List V → Hp → VK → Prop := fun vs H Q => ∃ (F : Hp) (ss : List Sl) (O : Own) (P : PS1), Same F H ∧ OwnOk K F H O ∧ VsOk K F vs ss ∧ S ss O P ∧
  ∀ v F' H' s O', Step K O F H O' F' H' → VOk K F' v s → P s O' → Q v H'
def spA (K : PySem.W.Frag) (S : DS) : Sp := fun vs H Q _ => rOf K S vs H Q
/-- a rule for a reading becomes one for its data -/
theorem cr_of {X : Cx} {f : Value} {r : List V → Hp → VK → Prop} {S : DS} (h : CallR X f r) (hs : ∀ ss O P, S ss O P → RvD X.K r ss O P) : CallR X f (rOf X.K S) := by
  intro pins s σ H xs us Q I rv hq
  obtain ⟨F, ss, O, P, sm, w, vo, hS, k⟩ := hq
  exact h pins s σ H xs us Q I rv (hs ss O P hS F H xs Q sm w vo k)
section
variable {K : PySem.W.Frag} {O : Own} {ρ : List Sl} {P : PS1}
/-- a call: the whole of what is owned is handed over -/
theorem rv_of {S : DS} {ss : List Sl} (h : S ss O P) : RvD K (rOf K S) ss O P := fun F H vs Q sm w vo k => ⟨F, ss, O, P, sm, w, vo, h, k⟩
/-- .. a part of it -/
theorem rv_part {S : DS} {ss : List Sl} {Oa Ob : Own} {P' : PS1} (hp : O.Perm (Oa ++ Ob)) (h : S ss Oa P') (hq : ∀ s Oa', P' s Oa' → P s (Oa' ++ Ob)) : RvD K (rOf K S) ss O P := fun F H vs Q sm w vo k =>
  have w' : OwnOk K F H (Oa ++ Ob) := w.perm hp
  ⟨F, ss, Oa, P', sm, w'.sub (List.sublist_append_left Oa Ob), vo, h, fun v F' H' s O' st vo' p => k v F' H' s (O' ++ Ob) ((Step.perm sm w hp).trans (Step.frame w' st)) vo' (hq s O' p)⟩
/-- .. nothing of it -/
theorem rv_none {S : DS} {ss : List Sl} {P' : PS1} (h : S ss [] P') (hq : ∀ s O', P' s O' → P s (O' ++ O)) : RvD K (rOf K S) ss O P := rv_part (Oa := []) (Ob := O) (List.Perm.refl _) h hq
theorem ev_call {S : DS} {t : TA} {E : XK} (h : EvA K t O ρ fun ss O1 => RvD K (rOf K S) ss O1 P) : Ev K (tCall (spA K S) [] E t) O ρ P :=
  fun F H σ Q sm rr w k => h F H σ _ sm rr w fun xs F1 H1 ss O1 st1 v1 h1 => by
    show spA K S (xs ++ []) H1 Q E
    rw [List.append_nil]
    exact h1 F1 H1 xs Q st1.fh st1.own v1 fun v F' H' s O' st vo p => k v F' H' s O' (st1.trans st) vo p
/-! ### statements -/
section
variable {P : Pst}
theorem st_seq {t u : TS} (h : StW K t O ρ { P with nx := fun ρ' O' => StW K u O' ρ' P }) : StW K (tSeq t u) O ρ P :=
  fun F H σ D sm rr w e => h F H σ { D with nx := u D } sm rr w ⟨fun σ' F' H' ρ' O' st r p => p F' H' σ' D st.fh r st.own (e.from st), e.rt, e.bk, e.ct⟩
theorem st_next (h : P.nx ρ O) : StW K tNext O ρ P := fun F H σ D sm rr w e => e.nx σ F H ρ O (Step.refl sm w) rr h
theorem st_break (h : P.bk ρ O) : StW K tBreak O ρ P := fun F H σ D sm rr w e => e.bk σ F H ρ O (Step.refl sm w) rr h
theorem st_cont (h : P.ct ρ O) : StW K tCont O ρ P := fun F H σ D sm rr w e => e.ct σ F H ρ O (Step.refl sm w) rr h
theorem st_drop {te : TE} (h : Ev K te O ρ fun _ O' => P.nx ρ O') : StW K (tDrop te) O ρ P :=
  fun F H σ D sm rr w e => h F H σ _ sm rr w fun v F' H' s O' st vo p => e.nx σ F' H' ρ O' st (rr.mono st.ff) p
theorem st_ret {te : TE} (h : Ev K te O ρ P.rt) : StW K (tRet te) O ρ P :=
  fun F H σ D sm rr w e => h F H σ _ sm rr w fun v F' H' s O' st vo p => e.rt v F' H' s O' st vo p
theorem st_if {c : TT} {t u : TS} (h : EvT K c O ρ fun b O' => (b = true → StW K t O' ρ P) ∧ (b = false → StW K u O' ρ P)) : StW K (tIfS c t u) O ρ P :=
  fun F H σ D sm rr w e => h F H σ _ sm rr w fun b F' H' O' st ⟨h1, h2⟩ => by
    cases b with
    | true => exact h1 rfl F' H' σ D st.fh (rr.mono st.ff) st.own (e.from st)
    | false => exact h2 rfl F' H' σ D st.fh (rr.mono st.ff) st.own (e.from st)
theorem st_asg {te : TE} {g : TG} (h : Ev K te O ρ fun s O' => Gw K g s O' ρ P.nx) : StW K (tAsg te g) O ρ P :=
  fun F H σ D sm rr w e => h F H σ _ sm rr w fun v F' H' s O' st vo p => p F' H' σ v D.nx st.fh (rr.mono st.ff) st.own vo fun σ' F2 H2 ρ' O2 st2 r p2 => e.nx σ' F2 H2 ρ' O2 (st.trans st2) r p2
theorem st_set {te : TE} {i : Nat} (h : Ev K te O ρ fun s O' => P.nx (ρ.set i s) O') : StW K (tAsg te (gName i)) O ρ P :=
  fun F H σ D sm rr w e => h F H σ _ sm rr w fun v F' H' s O' st vo p => e.nx _ F' H' _ O' st ((rr.mono st.ff).set vo i) p
theorem st_par {i j : Nat} {ta : TA} (h : EvA K ta O ρ fun ss O' => ∃ s t, ss = [s, t] ∧ P.nx ((ρ.set i s).set j t) O') : StW K (tPar i j ta) O ρ P :=
  fun F H σ D sm rr w e => h F H σ _ sm rr w fun vs F' H' ss O' st vo ⟨s, t, es, p⟩ => by
    subst es
    cases vo with
    | cons v1 r =>
      cases r with
      | cons v2 r =>
        cases r
        exact ⟨_, _, rfl, e.nx _ F' H' _ O' st (((rr.mono st.ff).set v1 i).set v2 j) p⟩
/-- a slot's word is forgotten, or made weaker -/
theorem st_freeze {t : TS} {i : Nat} {p : Addr} {ds : List PyData} {j : Nat} (ho : O[i]? = some (p, .lst ds)) (hr : ρ[j]? = some (.v (.ref p))) (h : StW K t (O.eraseIdx i) (ρ.set j (.d (.list ds))) P) : StW K t O ρ P :=
  fun F H σ D sm rr w e => by
    obtain ⟨F', st, hd⟩ := Step.freeze sm w ho
    refine h F' H σ D st.fh ?_ st.own (e.from st)
    obtain ⟨v, e1, e2⟩ := rr.get hr (fun z => nomatch z)
    have ev : v = .ref p := e2
    subst ev
    have q := (rr.mono st.ff).set (v := .ref p) (s := .d (.list ds)) hd j
    have es : σ.set j (some (V.ref p)) = σ := by
      refine List.ext_getElem? fun m => ?_
      by_cases hm : j = m
      · subst hm
        rw [List.getElem?_set_self (List.getElem?_eq_some_iff.mp e1).1, e1]
      · rw [List.getElem?_set_ne hm]
    rw [es] at q
    exact q
theorem st_perm {t : TS} {O' : Own} (hp : O.Perm O') (h : StW K t O' ρ P) : StW K t O ρ P :=
  fun F H σ D sm rr w e => h F H σ D sm rr (w.perm hp) (e.from (Step.perm sm w hp))
theorem st_lose {t : TS} {O' : Own} (hp : O'.Sublist O) (h : StW K t O' ρ P) : StW K t O ρ P :=
  fun F H σ D sm rr w e => h F H σ D sm rr (w.sub hp) (e.from (Step.drop sm w hp))
end
/-! ### targets -/
theorem gw_name {s : Sl} {i : Nat} {P : List Sl → Own → Prop} (h : P (ρ.set i s) O) : Gw K (gName i) s O ρ P :=
  fun F H σ v Q sm rr w vo k => k _ F H _ O (Step.refl sm w) (rr.set vo i) h
theorem gws_nil {P : List Sl → Own → Prop} (h : P ρ O) : Gws K gNil [] O ρ P := fun F H σ vs Q sm rr w vo k => by
  cases vo
  exact ⟨rfl, k σ F H ρ O (Step.refl sm w) rr h⟩
theorem gws_cons {g : TG} {u : TGs} {s : Sl} {ss : List Sl} {P : List Sl → Own → Prop} (h : Gw K g s O ρ fun ρ' O' => Gws K u ss O' ρ' P) : Gws K (gCons g u) (s :: ss) O ρ P :=
  fun F H σ vs Q sm rr w vo k => by
    cases vo with
    | cons v1 r =>
      refine ⟨_, _, rfl, h F H σ _ _ sm rr w v1 fun σ' F' H' ρ' O' st rr' p => ?_⟩
      exact p F' H' σ' _ Q st.fh rr' st.own (r.mono st.ff) fun σ2 F2 H2 ρ2 O2 st2 r2 p2 => k σ2 F2 H2 ρ2 O2 (st.trans st2) r2 p2
theorem gw_tup {n : Nat} {t : TGs} {ds : List PyData} {P : List Sl → Own → Prop} (hn : ds.length = n) (h : Gws K t (ds.map Sl.d) O ρ P) : Gw K (gTup K n t) (.d (.tuple ds)) O ρ P :=
  fun F H σ v Q sm rr w vo k => by
    have vo' : Dp K F v (.tuple ds) := vo
    cases vo' with
    | tup hs ha => exact ⟨_, _, rfl, Same.tupS sm hs, by rw [dpAll_len ha]; exact hn, h F H σ _ Q sm rr w (VsOk.of_data ha) k⟩
/-- a target that stores but to the slots vs -/
def GOnly (g : TG) (vs : List Nat) : Prop := ∀ v σ H (Q : L2.St → Hp → Prop), g v σ H Q → g v σ H fun σ' H' => wipe σ' vs = wipe σ vs ∧ Q σ' H'
def GsOnly (g : TGs) (vs : List Nat) : Prop := ∀ v σ H (Q : L2.St → Hp → Prop), g v σ H Q → g v σ H fun σ' H' => wipe σ' vs = wipe σ vs ∧ Q σ' H'
theorem wipe_ext {σ τ : L2.St} : ∀ {vs : List Nat}, σ.length = τ.length → (∀ i, i ∉ vs → σ[i]? = τ[i]?) → wipe σ vs = wipe τ vs
  | vs, hl, h => by
    refine List.ext_getElem? fun j => ?_
    by_cases hj : j ∈ vs
    · have key : ∀ (υ : L2.St) (vs : List Nat), j ∈ vs → j < υ.length → (wipe υ vs)[j]? = some none := by
        intro υ vs
        induction vs with
        | nil => intro h; cases h
        | cons v vs ih =>
          intro hm hlt
          show ((wipe υ vs).set v none)[j]? = some none
          by_cases hv : v = j
          · subst hv
            exact List.getElem?_set_self (by rw [wipe_length]; exact hlt)
          · rw [List.getElem?_set_ne hv]
            rcases List.mem_cons.mp hm with e | hm
            · exact absurd e.symm hv
            · exact ih hm hlt
      by_cases hlt : j < σ.length
      · rw [key σ vs hj hlt, key τ vs hj (by omega)]
      · rw [List.getElem?_eq_none (by rw [wipe_length]; omega), List.getElem?_eq_none (by rw [wipe_length]; omega)]
    · rw [wipe_out hj, wipe_out hj]
      exact h j hj
theorem go_name {i : Nat} {vs : List Nat} (h : i ∈ vs) : GOnly (gName i) vs := fun v σ H Q q => ⟨wipe_ext (by rw [List.length_set]) fun j hj => List.getElem?_set_ne fun e => hj (by rw [← e]; exact h), q⟩
theorem gso_nil {vs : List Nat} : GsOnly gNil vs := fun v σ H Q ⟨e, q⟩ => ⟨e, rfl, q⟩
theorem gso_cons {g : TG} {u : TGs} {vs : List Nat} (hm : ∀ v σ H (Q Q' : L2.St → Hp → Prop), (∀ σ' H', Q σ' H' → Q' σ' H') → g v σ H Q → g v σ H Q') (h1 : GOnly g vs) (h2 : GsOnly u vs) : GsOnly (gCons g u) vs := fun v σ H Q ⟨a, r, e, q⟩ =>
  ⟨a, r, e, hm _ _ _ _ _ (fun σ' H' ⟨e1, q1⟩ => by
    have q2 := h2 r σ' H' Q q1
    rw [e1] at q2
    exact q2) (h1 a σ H _ q)⟩
theorem gm_name {i : Nat} : ∀ v σ H (Q Q' : L2.St → Hp → Prop), (∀ σ' H', Q σ' H' → Q' σ' H') → gName i v σ H Q → gName i v σ H Q' := fun _ _ _ _ _ h q => h _ _ q
theorem go_tup {n : Nat} {t : TGs} {vs : List Nat} (h : GsOnly t vs) : GOnly (gTup K n t) vs := fun v σ H Q ⟨a, xs, e, hs, hn, q⟩ => ⟨a, xs, e, hs, hn, h xs σ H Q q⟩
/-! ### what is walked -/
theorem ei_tup {te : TE} {P : List PyData → Own → Prop} (h : Ev K te O ρ fun s O' => ∃ ds, s = .d (.tuple ds) ∧ P ds O') : EvI K (iTup K te) O ρ P :=
  fun F H σ R sm rr w k => h F H σ _ sm rr w fun v F' H' s O' st vo ⟨ds, es, p⟩ => by
    subst es
    have vo' : Dp K F' v (.tuple ds) := vo
    cases vo' with
    | @tup a xs _ hs ha =>
      refine ⟨a, rfl, ⟨xs, Same.tupS st.fh hs⟩, k _ F' H' ds O' st (fun F2 H2 s2 s3 => ?_) p⟩
      have hl := dpAll_len ha
      have hq : SqT K H2 a xs := Same.tupS (s2.trans s3) hs
      refine ⟨fun i hi => ⟨xs, xs[i]'(by omega), hq, List.getElem?_eq_getElem (by omega)⟩, ⟨xs, hq, by omega⟩, fun i x H3 hi y => ?_⟩
      obtain ⟨rfl, y⟩ := y
      have hx := y xs hq
      have hd : ds[i]? = some ds[i] := List.getElem?_eq_getElem hi
      obtain ⟨v, e1, e2⟩ := dpAll_get ha hd
      rw [hx] at e1
      cases e1
      exact ⟨_, F2, hd, Same.refl _, s3, fun b o e => ⟨e, rfl⟩, dpMono s2 _ _ e2⟩
theorem ei_list {te : TE} {P : List PyData → Own → Prop} (h : Ev K te O ρ fun s O' => ∃ ds, s = .d (.list ds) ∧ P ds O') : EvI K (iList K te) O ρ P :=
  fun F H σ R sm rr w k => h F H σ _ sm rr w fun v F' H' s O' st vo ⟨ds, es, p⟩ => by
    subst es
    have vo' : Dp K F' v (.list ds) := vo
    cases vo' with
    | @lst a xs _ hs ha =>
      refine ⟨a, rfl, ⟨xs, st.fh.seq hs⟩, k _ F' H' ds O' st (fun F2 H2 s2 s3 => ?_) p⟩
      have hl := dpAll_len ha
      have hq : SqL K H2 a xs := (s2.trans s3).seq hs
      refine ⟨fun i hi => ⟨xs, xs[i]'(by omega), hq, List.getElem?_eq_getElem (by omega)⟩, ⟨xs, hq, by omega⟩, fun i x H3 hi y => ?_⟩
      obtain ⟨rfl, y⟩ := y
      have hx := y xs hq
      have hd : ds[i]? = some ds[i] := List.getElem?_eq_getElem hi
      obtain ⟨v, e1, e2⟩ := dpAll_get ha hd
      rw [hx] at e1
      cases e1
      exact ⟨_, F2, hd, Same.refl _, s3, fun b o e => ⟨e, rfl⟩, dpMono s2 _ _ e2⟩
/-- lo, lo + 1, .. (n of them) -/
def rgD (lo : Int) (n : Nat) : List PyData := (List.range n).map fun i => PyData.int (lo + (i : Nat))
theorem rgD_len (lo : Int) (n : Nat) : (rgD lo n).length = n := by unfold rgD; rw [List.length_map, List.length_range]
theorem rgD_at {lo : Int} {n i : Nat} (h : i < n) : (rgD lo n)[i]? = some (.int (lo + (i : Nat))) := by
  unfold rgD
  rw [List.getElem?_map, List.getElem?_range h]
  rfl
theorem iter_rng {F : Hp} (lo : Int) (n : Nat) : IterOk K F (Itr lo n) (rgD lo n) := fun F2 H2 s2 s3 => by
  rw [rgD_len]
  refine ⟨fun i hi => hi, Nat.le_refl _, fun i x H3 hi y => ?_⟩
  obtain ⟨rfl, rfl⟩ := y
  exact ⟨_, F2, rgD_at hi, Same.refl _, s3, fun b o e => ⟨e, rfl⟩, .int _⟩
theorem ei_rng1 {ta : TA} {P : List PyData → Own → Prop} (h : EvA K ta O ρ fun ss O' => ∃ j : Int, ss = [.d (.int j)] ∧ -(2 ^ 62) ≤ j ∧ j < 2 ^ 62 ∧ P (rgD 0 j.toNat) O') : EvI K (iRng1 ta) O ρ P :=
  fun F H σ R sm rr w k => h F H σ _ sm rr w fun vs F' H' ss O' st vo ⟨j, es, h1, h2, p⟩ => by
    subst es
    cases vo with
    | cons v1 r =>
      cases r
      have v1' : Dp K F' _ (.int j) := v1
      cases v1'
      exact ⟨j, rfl, h1, h2, k _ F' H' _ O' st (iter_rng 0 _) p⟩
theorem ei_rng2 {ta : TA} {P : List PyData → Own → Prop} (h : EvA K ta O ρ fun ss O' => ∃ i j : Int, ss = [.d (.int i), .d (.int j)] ∧ (-(2 ^ 62) ≤ i ∧ i < 2 ^ 62 ∧ -(2 ^ 62) ≤ j ∧ j < 2 ^ 62) ∧ P (rgD i (j - i).toNat) O') : EvI K (iRng2 ta) O ρ P :=
  fun F H σ R sm rr w k => h F H σ _ sm rr w fun vs F' H' ss O' st vo ⟨i, j, es, h1, p⟩ => by
    subst es
    cases vo with
    | cons v1 r =>
      cases r with
      | cons v2 r =>
        cases r
        have v1' : Dp K F' _ (.int i) := v1
        have v2' : Dp K F' _ (.int j) := v2
        cases v1'
        cases v2'
        exact ⟨i, j, rfl, h1, k _ F' H' _ O' st (iter_rng i _) p⟩
/-! ### for -/
theorem st_for {wi : TI} {g : TG} {tb : TS} {P : Pst} (h : EvI K wi O ρ fun items O1 => ∃ I : Nat → List Sl → Own → Prop, I 0 ρ O1 ∧
    (∀ i x ρ' O', items[i]? = some x → I i ρ' O' → Gw K g (.d x) O' ρ' fun ρ2 O2 => StW K tb O2 ρ2 { nx := I (i + 1), ct := I (i + 1), bk := P.nx, rt := P.rt }) ∧ (∀ ρ' O', I items.length ρ' O' → P.nx ρ' O')) : StW K (tFor wi g tb) O ρ P :=
  fun F H σ D sm rr w e => h F H σ _ sm rr w fun J F1 H1 items O1 st1 io ⟨I, i0, turn, fin⟩ => by
    refine ⟨fun i m σ' H' => m = items.length - i ∧ i ≤ items.length ∧ ∃ F' ρ' O', Step K O F H O' F' H' ∧ Same F1 F' ∧ ROk K F' σ' ρ' ∧ I i ρ' O', ⟨items.length, by omega, Nat.zero_le _, F1, ρ, O1, st1, Same.refl _, rr.mono st1.ff, i0⟩, ?_⟩
    rintro i m σ' H' ⟨rfl, hi, F', ρ', O', st, sf, rr', inv⟩
    obtain ⟨go, stop, yl⟩ := io F' H' sf st.fh
    by_cases hlt : i < items.length
    · refine .inr ⟨go i hlt, fun σ2 H2 => ∃ F2 ρ2 O2, Step K O F H O2 F2 H2 ∧ Same F1 F2 ∧ ROk K F2 σ2 ρ2 ∧ I (i + 1) ρ2 O2, fun σ2 H2 ⟨F2, ρ2, O2, a, b, c, d⟩ => ⟨items.length - (i + 1), by omega, rfl, hlt, F2, ρ2, O2, a, b, c, d⟩, fun x H3 y => ?_⟩
      obtain ⟨d, F3, hd, s1, s2, kp, hx⟩ := yl i x H3 hlt y
      have stt : Step K O' F' H' O' F3 H3 := by
        refine ⟨s1, s2, fun b o eb _ => kp b o eb, fun b o eb => ⟨o, (kp b o eb).1⟩, ⟨st.own.nd, fun p c hp => ?_⟩, fun b hb => .inl hb⟩
        obtain ⟨q1, o, q2, q3⟩ := st.own.at_ p c hp
        obtain ⟨k1, k2⟩ := kp p o q2
        exact ⟨k2.trans q1, o, k1, q3.mono s1⟩
      refine turn i d ρ' O' hd inv F3 H3 σ' x _ s2 (rr'.mono s1) stt.own hx fun σ2 F4 H4 ρ2 O2 st4 rr4 q => ?_
      have sall : Step K O F H O2 F4 H4 := (st.trans stt).trans st4
      refine q F4 H4 σ2 _ st4.fh rr4 st4.own ⟨fun σ5 F5 H5 ρ5 O5 st5 r5 p5 => ?_, fun v F5 H5 s O5 st5 v5 p5 => ?_, fun σ5 F5 H5 ρ5 O5 st5 r5 p5 => ?_, fun σ5 F5 H5 ρ5 O5 st5 r5 p5 => ?_⟩
      · exact ⟨F5, ρ5, O5, sall.trans st5, ((sf.trans s1).trans st4.ff).trans st5.ff, r5, p5⟩
      · exact e.rt v F5 H5 s O5 (sall.trans st5) v5 p5
      · exact e.nx σ5 F5 H5 ρ5 O5 (sall.trans st5) r5 p5
      · exact ⟨F5, ρ5, O5, sall.trans st5, ((sf.trans s1).trans st4.ff).trans st5.ff, r5, p5⟩
    · have ei : i = items.length := by omega
      subst ei
      exact .inl ⟨stop, e.nx σ' F' H' ρ' O' st rr' (fin ρ' O' inv)⟩
/-- while: an invariant with a measure -/
theorem st_while {c : TT} {tb : TS} {P : Pst} (I : List Sl → Own → Prop) (μ : List Sl → Own → Nat) (h0 : I ρ O)
    (hs : ∀ ρ' O', I ρ' O' → EvT K c O' ρ' fun b O2 => (b = true → StW K tb O2 ρ' { nx := fun ρ3 O3 => I ρ3 O3 ∧ μ ρ3 O3 < μ ρ' O', ct := fun ρ3 O3 => I ρ3 O3 ∧ μ ρ3 O3 < μ ρ' O', bk := P.nx, rt := P.rt }) ∧ (b = false → P.nx ρ' O2)) : StW K (tWhile c tb) O ρ P :=
  fun F H σ D sm rr w e => by
    refine ⟨fun m σ' H' => ∃ F' ρ' O', Step K O F H O' F' H' ∧ ROk K F' σ' ρ' ∧ I ρ' O' ∧ m = μ ρ' O', ⟨_, F, ρ, O, Step.refl sm w, rr, h0, rfl⟩, ?_⟩
    rintro m σ' H' ⟨F', ρ', O', st, rr', inv, rfl⟩
    refine hs ρ' O' inv F' H' σ' _ st.fh rr' st.own fun b F2 H2 O2 st2 ⟨h1, h2⟩ => ?_
    cases b with
    | false => exact e.nx σ' F2 H2 ρ' O2 (st.trans st2) (rr'.mono st2.ff) (h2 rfl)
    | true =>
      refine ⟨fun σ3 H3 => ∃ F3 ρ3 O3, Step K O F H O3 F3 H3 ∧ ROk K F3 σ3 ρ3 ∧ I ρ3 O3 ∧ μ ρ3 O3 < μ ρ' O', fun σ3 H3 ⟨F3, ρ3, O3, a, b, c, d⟩ => ⟨_, d, F3, ρ3, O3, a, b, c, rfl⟩, ?_⟩
      refine h1 rfl F2 H2 σ' _ st2.fh (rr'.mono st2.ff) st2.own ⟨fun σ5 F5 H5 ρ5 O5 st5 r5 p5 => ?_, fun v F5 H5 s O5 st5 v5 p5 => ?_, fun σ5 F5 H5 ρ5 O5 st5 r5 p5 => ?_, fun σ5 F5 H5 ρ5 O5 st5 r5 p5 => ?_⟩
      · exact ⟨F5, ρ5, O5, (st.trans st2).trans st5, r5, p5.1, p5.2⟩
      · exact e.rt v F5 H5 s O5 ((st.trans st2).trans st5) v5 p5
      · exact e.nx σ5 F5 H5 ρ5 O5 ((st.trans st2).trans st5) r5 p5
      · exact ⟨F5, ρ5, O5, (st.trans st2).trans st5, r5, p5.1, p5.2⟩
/-! ### list comprehensions -/
theorem lc_own {wi : TI} {g : TG} {tt : TT} {te : TE} {vs : List Nat} (hg : GOnly g vs) (h : EvI K wi O ρ fun items O1 => ∃ I : Nat → List PyData → Own → Prop, I 0 [] O1 ∧
    (∀ i x acc O', items[i]? = some x → I i acc O' → Gw K g (.d x) O' (wipeS ρ vs) fun ρ2 O2 => EvT K tt O2 ρ2 fun b O3 =>
      (b = true → Ev K te O3 ρ2 fun y O4 => ∃ d, y = .d d ∧ acc.length < sizeLine ∧ I (i + 1) (acc ++ [d]) O4) ∧ (b = false → I (i + 1) acc O3)) ∧
    (∀ acc O' p, I items.length acc O' → P (.v (.ref p)) ((p, .lst acc) :: O'))) : Ev K (tLc wi g tt te vs) O ρ P :=
  fun F H σ Q sm rr w k => h F H σ _ sm rr w fun J F1 H1 items O1 st1 io ⟨I, i0, turn, fin⟩ => by
    intro D hD
    have stD := Step.newO (o := .lst []) (c := .lst []) st1.fh st1.own hD ⟨[], rfl, .nil⟩
    refine ⟨fun i m H' => m = items.length - i ∧ i ≤ items.length ∧ ∃ F' acc O', Step K O F H ((D, .lst acc) :: O') F' H' ∧ Same F1 F' ∧ I i acc O', ⟨items.length, by omega, Nat.zero_le _, F1, [], O1, st1.trans stD, Same.refl _, i0⟩, ?_⟩
    rintro i m H' ⟨rfl, hi, F', acc, O', st, sf, inv⟩
    obtain ⟨go, stop, yl⟩ := io F' H' sf st.fh
    by_cases hlt : i < items.length
    · refine .inr ⟨go i hlt, fun H2 => ∃ F2 acc2 O2, Step K O F H ((D, .lst acc2) :: O2) F2 H2 ∧ Same F1 F2 ∧ I (i + 1) acc2 O2, fun H2 ⟨F2, acc2, O2, a, b, c⟩ => ⟨items.length - (i + 1), by omega, rfl, hlt, F2, acc2, O2, a, b, c⟩, fun x H3 y => ?_⟩
      obtain ⟨d, F3, hd, s1, s2, kp, hx⟩ := yl i x H3 hlt y
      have stt : Step K ((D, .lst acc) :: O') F' H' ((D, .lst acc) :: O') F3 H3 := by
        refine ⟨s1, s2, fun b o eb _ => kp b o eb, fun b o eb => ⟨o, (kp b o eb).1⟩, ⟨st.own.nd, fun p c hp => ?_⟩, fun b hb => .inl hb⟩
        obtain ⟨q1, o, q2, q3⟩ := st.own.at_ p c hp
        obtain ⟨k1, k2⟩ := kp p o q2
        exact ⟨k2.trans q1, o, k1, q3.mono s1⟩
      -- the list at D put behind, for the frame rule
      have pm : ∀ (U : Own), ((D, Oc.lst acc) :: U).Perm (U ++ [(D, .lst acc)]) := fun U => List.perm_append_comm (l₁ := [(D, Oc.lst acc)]) (l₂ := U)
      have wP := stt.own.perm (pm O')
      have s0 : Step K O F H (O' ++ [(D, .lst acc)]) F3 H3 := (st.trans stt).trans (Step.perm s2 stt.own (pm O'))
      have rP : ROk K F3 (wipe σ vs) (wipeS ρ vs) := (rr.wipe vs).mono s0.ff
      have idem : wipe (wipe σ vs) vs = wipe σ vs := wipe_ext (wipe_length σ vs) fun i hi => wipe_out hi
      have goal := hg x (wipe σ vs) H3 (fun σ2 H2 => tt σ2 H2 fun b H3 => if b = true then te σ2 H3 fun y H4 => ∃ acc, H4 D = some (.lst acc) ∧ acc.length < sizeLine ∧ (fun H2 => ∃ F2 acc2 O2, Step K O F H ((D, .lst acc2) :: O2) F2 H2 ∧ Same F1 F2 ∧ I (i + 1) acc2 O2) (upd H4 D (.lst (acc ++ [y]))) else (fun H2 => ∃ F2 acc2 O2, Step K O F H ((D, .lst acc2) :: O2) F2 H2 ∧ Same F1 F2 ∧ I (i + 1) acc2 O2) H3) (by
        refine turn i d acc O' hd inv F3 H3 (wipe σ vs) x _ s2 rP (wP.sub (List.sublist_append_left _ _)) hx fun σ2 F4 H4 ρ2 O2 st4 rr4 q => ?_
        have s4 := s0.trans (Step.frame wP st4)
        refine q F4 H4 σ2 _ st4.fh rr4 st4.own fun b F5 H5 O3 st5 ⟨hT, hF⟩ => ?_
        have s5 := s4.trans (Step.frame s4.own st5)
        have sf5 : Same F1 F5 := ((sf.trans s1).trans st4.ff).trans st5.ff
        cases b with
        | false => exact ⟨F5, acc, O3, s5.trans (Step.perm s5.fh s5.own (pm O3).symm), sf5, hF rfl⟩
        | true =>
          refine hT rfl F5 H5 σ2 _ st5.fh (rr4.mono st5.ff) st5.own fun y F6 H6 s O4 st6 vy ⟨d', es, hlen, inv'⟩ => ?_
          subst es
          have s6 := s5.trans (Step.frame s5.own st6)
          have s7 := s6.trans (Step.perm s6.fh s6.own (pm O4).symm)
          obtain ⟨hF6, o, hD6, va, eo, hva⟩ := own_get (i := 0) (p := D) (c := .lst acc) s7.own rfl
          subst eo
          refine ⟨va, hD6, by rw [dpAll_len hva]; exact hlen, F6, acc ++ [d'], O4, ?_, sf5.trans st6.ff, inv'⟩
          exact s7.trans (Step.write (i := 0) (c := .lst acc) s7.fh s7.own rfl ⟨va ++ [y], rfl, dpAll_append hva (.cons vy .nil)⟩))
      rw [idem] at goal
      exact goal
    · have ei : i = items.length := by omega
      subst ei
      exact .inl ⟨stop, k _ F' H' (.v (.ref D)) _ st rfl (fin acc O' D inv)⟩
end
end AL

namespace AL
open PySem PySem.Spec PyProof.Rows L2
/-! ### comprehensions whose list is data; the simple ones -/
section
variable {K : PySem.W.Frag} {O : Own} {ρ : List Sl} {P : PS1}
theorem lc_d {wi : TI} {g : TG} {tt : TT} {te : TE} {vs : List Nat} (hg : GOnly g vs) (h : EvI K wi O ρ fun items O1 => ∃ I : Nat → List PyData → Own → Prop, I 0 [] O1 ∧
    (∀ i x acc O', items[i]? = some x → I i acc O' → Gw K g (.d x) O' (wipeS ρ vs) fun ρ2 O2 => EvT K tt O2 ρ2 fun b O3 =>
      (b = true → Ev K te O3 ρ2 fun y O4 => ∃ d, y = .d d ∧ acc.length < sizeLine ∧ I (i + 1) (acc ++ [d]) O4) ∧ (b = false → I (i + 1) acc O3)) ∧
    (∀ acc O', I items.length acc O' → P (.d (.list acc)) O')) : Ev K (tLc wi g tt te vs) O ρ P :=
  ev_freeze (lc_own hg fun F H σ R sm rr w k => h F H σ R sm rr w fun J F' H' ds O' st io ⟨I, i0, turn, fin⟩ => k J F' H' ds O' st io ⟨I, i0, turn, fun acc O2 p q => ⟨0, p, acc, rfl, rfl, fin acc O2 q⟩⟩)
theorem et_yes {P : Bool → Own → Prop} (h : P true O) : EvT K tYes O ρ P := fun F H σ Q sm rr w k => k true F H O (Step.refl sm w) h
theorem filterMap_take_succ {α β : Type} (f : α → Option β) {xs : List α} {i : Nat} {x : α} (h : xs[i]? = some x) : (xs.take (i + 1)).filterMap f = (xs.take i).filterMap f ++ (match f x with | some b => [b] | none => []) := by
  rw [List.take_add_one, h, List.filterMap_append]
  congr 1
  show List.filterMap f [x] = _
  rw [List.filterMap_cons]
  cases f x <;> rfl
/-- [e for x in xs if t], nothing owned is touched: x ranges over data f a, a in xs; kept are those with test t, the element is G a -/
theorem lc_fm {α : Type} {wi : TI} {g : TG} {tt : TT} {te : TE} {vs : List Nat} {xs : List α} {f : α → PyData} (t : α → Bool) (G : α → PyData) (hg : GOnly g vs)
    (h : EvI K wi O ρ fun items O1 => items = xs.map f ∧ O1 = O ∧ xs.length ≤ sizeLine ∧ (∀ x ∈ xs, Gw K g (.d (f x)) O (wipeS ρ vs) fun ρ2 O2 => O2 = O ∧ EvT K tt O ρ2 fun b O3 => b = t x ∧ O3 = O ∧ (t x = true → Ev K te O ρ2 fun y O4 => y = .d (G x) ∧ O4 = O)) ∧
      P (.d (.list ((xs.filter t).map G))) O) : Ev K (tLc wi g tt te vs) O ρ P :=
  lc_d hg fun F H σ R sm rr w k => h F H σ R sm rr w fun J F' H' ds O' st io ⟨e1, e2, hz, turn, fin⟩ => by
    subst e1
    subst e2
    refine k J F' H' _ _ st io ⟨fun i acc O2 => O2 = O' ∧ acc = ((xs.take i).filter t).map G, ⟨rfl, rfl⟩, fun i x acc O2 hx ⟨eo, ea⟩ => ?_, fun acc O2 ⟨eo, ea⟩ => ?_⟩
    · subst eo
      rw [List.getElem?_map] at hx
      cases e : xs[i]? with
      | none =>
        rw [e] at hx
        cases hx
      | some a =>
        rw [e] at hx
        have ex : f a = x := Option.some.inj hx
        subst ex
        have hi : i < xs.length := (List.getElem?_eq_some_iff.mp e).1
        have step : ((xs.take (i + 1)).filter t).map G = ((xs.take i).filter t).map G ++ (if t a = true then [G a] else []) := by
          rw [List.take_add_one, e, List.filter_append, List.map_append]
          congr 1
          show (List.filter t [a]).map G = _
          rw [List.filter_cons]
          by_cases ht : t a = true
          · rw [if_pos ht, if_pos ht]; rfl
          · rw [if_neg ht, if_neg ht]; rfl
        have hl : acc.length < sizeLine := by
          rw [ea, List.length_map]
          have h1 := List.length_filter_le t (xs.take i)
          rw [List.length_take] at h1
          omega
        refine fun F H σ v Q sm rr w vo kk => turn a (List.mem_of_getElem? e) F H σ v Q sm rr w vo fun σ' F2 H2 ρ2 O3 st2 r2 ⟨eo3, ht⟩ => kk σ' F2 H2 ρ2 O3 st2 r2 ?_
        subst eo3
        refine ht.mono fun b O4 ⟨eb, eo4, hT⟩ => ?_
        subst eo4
        refine ⟨fun hb => ?_, fun hb => ⟨rfl, ?_⟩⟩
        · have htr : t a = true := by rw [← eb]; exact hb
          exact (hT htr).mono fun y O5 ⟨ey, eo5⟩ => ⟨G a, ey, hl, eo5, by rw [step, if_pos htr, ea]⟩
        · have htr : ¬ t a = true := by rw [← eb, hb]; decide
          rw [step, if_neg htr, ea, List.append_nil]
    · subst eo
      rw [List.length_map, List.take_length] at ea
      rw [ea]
      exact fin
theorem filter_true {α : Type} (xs : List α) : xs.filter (fun _ => true) = xs := List.filter_eq_self.mpr fun _ _ => rfl
/-- [e for x in xs] -/
theorem lc_map {α : Type} {wi : TI} {g : TG} {te : TE} {vs : List Nat} {xs : List α} {f : α → PyData} (G : α → PyData) (hg : GOnly g vs)
    (h : EvI K wi O ρ fun items O1 => items = xs.map f ∧ O1 = O ∧ xs.length ≤ sizeLine ∧ (∀ x ∈ xs, Gw K g (.d (f x)) O (wipeS ρ vs) fun ρ2 O2 => O2 = O ∧ Ev K te O ρ2 fun y O4 => y = .d (G x) ∧ O4 = O) ∧
      P (.d (.list (xs.map G))) O) : Ev K (tLc wi g tYes te vs) O ρ P :=
  lc_fm (fun _ => true) G hg fun F H σ R sm rr w k => h F H σ R sm rr w fun J F' H' ds O' st io ⟨e1, e2, hz, turn, fin⟩ =>
    k J F' H' ds O' st io ⟨e1, e2, hz, fun x hx F H σ v Q sm rr w vo kk => turn x hx F H σ v Q sm rr w vo fun σ' F2 H2 ρ2 O3 st2 r2 ⟨a, b⟩ => kk σ' F2 H2 ρ2 O3 st2 r2 ⟨a, et_yes ⟨rfl, rfl, fun _ => b⟩⟩, by rw [filter_true]; exact fin⟩
end
/-! ### sequences as data -/
abbrev SeqD (O : Own) (a : Sl) (ds : List PyData) : Prop := a = .d (.tuple ds) ∨ a = .d (.list ds) ∨ ∃ p, a = .v (.ref p) ∧ (p, Oc.lst ds) ∈ O
abbrev LstD (O : Own) (a : Sl) (ds : List PyData) : Prop := a = .d (.list ds) ∨ ∃ p, a = .v (.ref p) ∧ (p, Oc.lst ds) ∈ O
section
variable {K : PySem.W.Frag} {O : Own} {ρ : List Sl} {P : PS1} {F H : Hp} {a : Sl} {ds : List PyData} {x : V}
theorem SeqD.t : SeqD O (.d (.tuple ds)) ds := .inl rfl
theorem SeqD.l : SeqD O (.d (.list ds)) ds := .inr (.inl rfl)
theorem LstD.l : LstD O (.d (.list ds)) ds := .inl rfl
theorem LstD.o {i : Nat} {p : Addr} (h : O[i]? = some (p, .lst ds)) : LstD O (.v (.ref p)) ds := .inr ⟨p, rfl, List.mem_of_getElem? h⟩
theorem SeqD.o {i : Nat} {p : Addr} (h : O[i]? = some (p, .lst ds)) : SeqD O (.v (.ref p)) ds := .inr (.inr ⟨p, rfl, List.mem_of_getElem? h⟩)
theorem seq_get (h : SeqD O a ds) (vo : VOk K F x a) (sm : Same F H) (w : OwnOk K F H O) : ∃ p xs, x = .ref p ∧ (SqL K H p xs ∨ SqT K H p xs) ∧ DpAll K F xs ds := by
  rcases h with e | e | ⟨p, e, hp⟩
  · subst e
    have vo' : Dp K F x (.tuple ds) := vo
    cases vo' with
    | tup hs ha => exact ⟨_, _, rfl, .inr (Same.tupS sm hs), ha⟩
  · subst e
    have vo' : Dp K F x (.list ds) := vo
    cases vo' with
    | lst hs ha => exact ⟨_, _, rfl, .inl (sm.seq hs), ha⟩
  · subst e
    have ex : x = .ref p := vo
    obtain ⟨_, o, ho, vs, eo, hv⟩ := w.at_ p _ hp
    subst eo
    exact ⟨p, vs, ex, .inl (SqL.of ho), hv⟩
theorem lst_get (h : LstD O a ds) (vo : VOk K F x a) (sm : Same F H) (w : OwnOk K F H O) : ∃ p xs, x = .ref p ∧ SqL K H p xs ∧ DpAll K F xs ds := by
  rcases h with e | ⟨p, e, hp⟩
  · subst e
    have vo' : Dp K F x (.list ds) := vo
    cases vo' with
    | lst hs ha => exact ⟨_, _, rfl, sm.seq hs, ha⟩
  · subst e
    have ex : x = .ref p := vo
    obtain ⟨_, o, ho, vs, eo, hv⟩ := w.at_ p _ hp
    subst eo
    exact ⟨p, vs, ex, SqL.of ho, hv⟩
theorem atI_dp {xs : List V} {i : Int} {d : PyData} (ha : DpAll K F xs ds) (h : atI ds i = some d) : ∃ v, atI xs i = some v ∧ Dp K F v d := by
  unfold atI at h ⊢
  rw [dpAll_len ha]
  cases e : ixN ds.length i with
  | none =>
    rw [e] at h
    cases h
  | some j =>
    rw [e] at h
    exact dpAll_get ha h
/-- a[b] -/
theorem ev_ix {ta tb : TE} (h : Ev K ta O ρ fun a O1 => ∃ b', b' = a ∧ Ev K tb O1 ρ fun b O2 => ∃ ds i d, SeqD O2 a ds ∧ b = .d (.int i) ∧ atI ds i = some d ∧ P (.d d) O2) : Ev K (tOp (rIx K) ta tb) O ρ P :=
  ev_op h fun a O1 ⟨_, _, hb⟩ => hb.mono fun b O2 ⟨ds, i, d, hs, eb, hd, p⟩ F H σ x y Q sm rr w hx hy k => by
    subst eb
    have hy' : Dp K F y (.int i) := hy
    cases hy'
    obtain ⟨q, xs, rfl, hq, ha⟩ := seq_get hs hx sm w
    obtain ⟨v, e1, e2⟩ := atI_dp ha hd
    rcases hq with hq | hq
    · exact .inl ⟨q, xs, i, v, rfl, rfl, hq, e1, k v F H (.d d) O2 (Step.refl sm w) e2 p⟩
    · exact .inr (.inl ⟨q, xs, i, v, rfl, rfl, hq, e1, k v F H (.d d) O2 (Step.refl sm w) e2 p⟩)
/-! ### slices -/
def cutD (ds : List PyData) (lo hi : Option Int) : List PyData := (ds.drop (HT.sIx ds.length 0 lo)).take (HT.sIx ds.length ds.length hi - HT.sIx ds.length 0 lo)
theorem cut_dp {xs : List V} (ha : DpAll K F xs ds) (lo hi : Option Int) : DpAll K F (cutV xs lo hi) (cutD ds lo hi) := by
  unfold cutV cutD
  rw [dpAll_len ha]
  exact dpAll_take _ (dpAll_drop _ ha)
theorem eo_none {P : Option Int → Own → Prop} (h : P none O) : EvO K tNoPart O ρ P := fun F H σ Q sm rr w k => k none F H O (Step.refl sm w) h
theorem eo_some {te : TE} {P : Option Int → Own → Prop} (h : Ev K te O ρ fun s O1 => ∃ i, s = .d (.int i) ∧ P (some i) O1) : EvO K (tPart te) O ρ P := fun F H σ Q sm rr w k => h F H σ _ sm rr w fun v F' H' s O' st vo ⟨i, es, p⟩ => by
  subst es
  have vo' : Dp K F' v (.int i) := vo
  cases vo'
  exact ⟨i, rfl, k (some i) F' H' O' st p⟩
/-- e[lo:hi] of a list -/
theorem ev_slL {te : TE} {tl th : TO} (h : Ev K te O ρ fun a O1 => EvO K tl O1 ρ fun lo O2 => EvO K th O2 ρ fun hi O3 => ∃ ds, LstD O3 a ds ∧ P (.d (.list (cutD ds lo hi))) O3) : Ev K (tSl (rSlL K) te tl th) O ρ P :=
  fun F H σ Q sm rr w k => h F H σ _ sm rr w fun x F1 H1 a O1 st1 v1 h1 => h1 F1 H1 σ _ st1.fh (rr.mono st1.ff) st1.own fun lo F2 H2 O2 st2 h2 => h2 F2 H2 σ _ st2.fh (rr.mono (st1.ff.trans st2.ff)) st2.own fun hi F3 H3 O3 st3 ⟨ds, hl, p⟩ => by
    obtain ⟨q, xs, rfl, hq, ha⟩ := lst_get hl (v1.mono (st2.ff.trans st3.ff)) st3.fh st3.own
    refine ⟨q, xs, rfl, hq, fun r hr => ?_⟩
    have st4 := Step.new (o := .lst (cutV xs lo hi)) st3.fh st3.own hr
    exact k _ _ _ (.d (.list (cutD ds lo hi))) O3 (((st1.trans st2).trans st3).trans st4) (Dp.lst (.inl (.inl upd_same)) (dpMonoAll st4.ff _ _ (cut_dp ha lo hi))) p
/-- e[lo:hi] of a tuple -/
theorem ev_slT {te : TE} {tl th : TO} (h : Ev K te O ρ fun a O1 => EvO K tl O1 ρ fun lo O2 => EvO K th O2 ρ fun hi O3 => ∃ ds, a = .d (.tuple ds) ∧ P (.d (.tuple (cutD ds lo hi))) O3) : Ev K (tSl (rSlA K) te tl th) O ρ P :=
  fun F H σ Q sm rr w k => h F H σ _ sm rr w fun x F1 H1 a O1 st1 v1 h1 => h1 F1 H1 σ _ st1.fh (rr.mono st1.ff) st1.own fun lo F2 H2 O2 st2 h2 => h2 F2 H2 σ _ st2.fh (rr.mono (st1.ff.trans st2.ff)) st2.own fun hi F3 H3 O3 st3 ⟨ds, hl, p⟩ => by
    subst hl
    have v1' : Dp K F3 x (.tuple ds) := v1.mono (st2.ff.trans st3.ff)
    cases v1' with
    | @tup q xs _ hs ha =>
      refine ⟨q, xs, rfl, Same.tupS st3.fh hs, fun hw => ?_, fun _ r hr => ?_⟩
      · have e : cutD ds lo hi = ds := by
          unfold cutD
          rw [← dpAll_len ha, hw.1, hw.2, List.drop_zero, Nat.sub_zero, dpAll_len ha, List.take_length]
        rw [e] at p
        exact k _ F3 H3 (.d (.tuple ds)) O3 ((st1.trans st2).trans st3) (Dp.tup hs ha) p
      · have st4 := Step.new (o := .tup (cutV xs lo hi)) st3.fh st3.own hr
        exact k _ _ _ (.d (.tuple (cutD ds lo hi))) O3 (((st1.trans st2).trans st3).trans st4) (Dp.tup (.inl (.inl upd_same)) (dpMonoAll st4.ff _ _ (cut_dp ha lo hi))) p
/-- t + u of tuples -/
theorem ev_catT {ta tb : TE} (h : Ev K ta O ρ fun a O1 => ∃ ds, a = .d (.tuple ds) ∧ Ev K tb O1 ρ fun b O2 => ∃ es, b = .d (.tuple es) ∧ ds.length + es.length ≤ sizeLine ∧ P (.d (.tuple (ds ++ es))) O2) : Ev K (tOp (rCatA K) ta tb) O ρ P :=
  ev_op h fun a O1 ⟨ds, ea, hb⟩ => hb.mono fun b O2 ⟨es, eb, hz, p⟩ F H σ x y Q sm rr w hx hy k => by
    subst ea
    subst eb
    have hx' : Dp K F x (.tuple ds) := hx
    have hy' : Dp K F y (.tuple es) := hy
    cases hx' with
    | @tup q xs _ hs ha =>
      cases hy' with
      | @tup r ys _ hs2 ha2 =>
        have l1 := dpAll_len ha
        have l2 := dpAll_len ha2
        refine ⟨q, r, xs, ys, rfl, rfl, Same.tupS sm hs, Same.tupS sm hs2, by omega, fun e => ?_, fun _ e => ?_, fun _ _ u hu => ?_⟩
        · subst e
          have e0 : ds = [] := List.length_eq_zero_iff.mp (by rw [← l1]; rfl)
          subst e0
          exact k _ F H (.d (.tuple es)) O2 (Step.refl sm w) (Dp.tup hs2 ha2) p
        · subst e
          have e0 : es = [] := List.length_eq_zero_iff.mp (by rw [← l2]; rfl)
          subst e0
          rw [List.append_nil] at p
          exact k _ F H (.d (.tuple ds)) O2 (Step.refl sm w) (Dp.tup hs ha) p
        · have st := Step.new (o := .tup (xs ++ ys)) sm w hu
          exact k _ _ _ (.d (.tuple (ds ++ es))) O2 st (Dp.tup (.inl (.inl upd_same)) (dpMonoAll st.ff _ _ (dpAll_append ha ha2))) p
/-- n in t, not in t: ints -/
theorem inV_ints (n : Int) (ns : List Int) : inV (.int n) (ns.map V.int) = decide (n ∈ ns) := by
  unfold inV
  rw [List.any_map]
  induction ns with
  | nil => rfl
  | cons m ns ih =>
    rw [List.any_cons, ih]
    have e : ((fun y => eqV y (V.int n)) ∘ V.int) m = decide (n = m) := by
      show eqV (.int m) (.int n) = _
      rw [show eqV (.int m) (.int n) = (m == n) from rfl]
      by_cases h : n = m
      · subst h; simp
      · have h2 : ¬ m = n := fun z => h z.symm
        simp [h, h2]
    rw [e]
    by_cases h : n = m
    · subst h; simp
    · simp [h]
theorem ev_in {ta tb : TE} {neg : Bool} (h : Ev K ta O ρ fun a O1 => ∃ n, a = .d (.int n) ∧ Ev K tb O1 ρ fun b O2 => ∃ ns : List Int, SeqD O2 b (dI ns) ∧ P (.d (.bool (if neg then !decide (n ∈ ns) else decide (n ∈ ns)))) O2) : Ev K (tOp (rIn K neg) ta tb) O ρ P :=
  ev_op h fun a O1 ⟨n, ea, hb⟩ => hb.mono fun b O2 ⟨ns, hs, p⟩ F H σ x y Q sm rr w hx hy k => by
    subst ea
    have hx' : Dp K F x (.int n) := hx
    cases hx'
    obtain ⟨q, xs, rfl, hq, ha⟩ := seq_get hs hy sm w
    have e := dp_ints ha
    subst e
    refine ⟨q, _, rfl, hq, rfl, ?_, ?_⟩
    · rw [List.all_map]
      exact List.all_eq_true.mpr fun m _ => rfl
    · rw [inV_ints]
      exact k _ F H (.d (.bool _)) O2 (Step.refl sm w) (Dp.bl _) p
end
/-! ### built-ins: what they do with data -/
section
variable {X : Cx}
abbrev sLen : DS := fun ss O P => ∃ a ds, ss = [a] ∧ SeqD O a ds ∧ P (.d (.int (ds.length : Nat))) O
theorem cl_len : CallR X (.builtin "len") (rOf X.K sLen) := cr_of call_len_seq fun ss O P ⟨a, ds, es, hs, p⟩ F H vs Q sm w vo k => by
  subst es
  cases vo with
  | cons v1 r =>
    cases r
    obtain ⟨q, xs, rfl, hq, ha⟩ := seq_get hs v1 sm w
    refine ⟨q, xs, rfl, hq, ?_⟩
    rw [dpAll_len ha]
    exact k _ F H (.d (.int _)) O (Step.refl sm w) (Dp.int _) p
abbrev sAbs : DS := fun ss O P => ∃ i : Int, ss = [.d (.int i)] ∧ P (.d (.int (i.natAbs : Nat))) O
theorem cl_abs : CallR X (.builtin "abs") (rOf X.K sAbs) := cr_of call_abs fun ss O P ⟨i, es, p⟩ F H vs Q sm w vo k => by
  subst es
  cases vo with
  | cons v1 r =>
    cases r
    have v1' : Dp X.K F _ (.int i) := v1
    cases v1'
    have e : (if i < 0 then -i else i) = (i.natAbs : Int) := by split <;> omega
    refine ⟨i, rfl, ?_⟩
    rw [e]
    exact k _ F H (.d (.int _)) O (Step.refl sm w) (Dp.int _) p
def sInt2 (f : Int → Int → Int) : DS := fun ss O P => ∃ i j : Int, ss = [.d (.int i), .d (.int j)] ∧ P (.d (.int (f i j))) O
theorem vs_int2 {K : PySem.W.Frag} {F : Hp} {vs : List V} {i j : Int} (h : VsOk K F vs [.d (.int i), .d (.int j)]) : vs = [.int i, .int j] := by
  cases h with
  | cons v1 r =>
    cases r with
    | cons v2 r =>
      cases r
      have v1' : Dp K F _ (.int i) := v1
      have v2' : Dp K F _ (.int j) := v2
      cases v1'
      cases v2'
      rfl
theorem cl_min2 (hc : X.calm = true) : CallR X (.builtin "min") (rOf X.K (sInt2 min)) := cr_of (call_min2 hc) fun ss O P ⟨i, j, es, p⟩ F H vs Q sm w vo k => by
  subst es
  have e := vs_int2 vo
  subst e
  have e : (if j < i then j else i) = min i j := by
    rw [Int.min_def]
    split <;> split <;> omega
  refine ⟨i, j, rfl, ?_⟩
  rw [e]
  exact k _ F H (.d (.int _)) O (Step.refl sm w) (Dp.int _) p
theorem cl_max2 (hc : X.calm = true) : CallR X (.builtin "max") (rOf X.K (sInt2 max)) := cr_of (call_max2 hc) fun ss O P ⟨i, j, es, p⟩ F H vs Q sm w vo k => by
  subst es
  have e := vs_int2 vo
  subst e
  have e : (if j > i then j else i) = max i j := by
    rw [Int.max_def]
    split <;> split <;> omega
  refine ⟨i, j, rfl, ?_⟩
  rw [e]
  exact k _ F H (.d (.int _)) O (Step.refl sm w) (Dp.int _) p
abbrev sMaxL : DS := fun ss O P => ∃ a ns, ss = [a] ∧ LstD O a (dI ns) ∧ 0 < ns.length ∧ ∀ m, m ∈ ns → (∀ y, y ∈ ns → y ≤ m) → P (.d (.int m)) O
abbrev sMinL : DS := fun ss O P => ∃ a ns, ss = [a] ∧ LstD O a (dI ns) ∧ 0 < ns.length ∧ ∀ m, m ∈ ns → (∀ y, y ∈ ns → m ≤ y) → P (.d (.int m)) O
theorem cl_maxL (hc : X.calm = true) : CallR X (.builtin "max") (rOf X.K sMaxL) := cr_of (cr_max hc) fun ss O P ⟨a, ns, es, hs, hn, p⟩ F H vs Q sm w vo k => by
  subst es
  cases vo with
  | cons v1 r =>
    cases r
    obtain ⟨q, xs, rfl, hq, ha⟩ := lst_get hs v1 sm w
    have e := dp_ints ha
    subst e
    exact ⟨q, ns, rfl, hq, hn, fun m h1 h2 => k _ F H (.d (.int _)) O (Step.refl sm w) (Dp.int _) (p m h1 h2)⟩
theorem cl_minL (hc : X.calm = true) : CallR X (.builtin "min") (rOf X.K sMinL) := cr_of (cr_min hc) fun ss O P ⟨a, ns, es, hs, hn, p⟩ F H vs Q sm w vo k => by
  subst es
  cases vo with
  | cons v1 r =>
    cases r
    obtain ⟨q, xs, rfl, hq, ha⟩ := lst_get hs v1 sm w
    have e := dp_ints ha
    subst e
    exact ⟨q, ns, rfl, hq, hn, fun m h1 h2 => k _ F H (.d (.int _)) O (Step.refl sm w) (Dp.int _) (p m h1 h2)⟩
abbrev sAll : DS := fun ss O P => ∃ (a : Sl) (bs : List Bool), ss = [a] ∧ LstD O a (bs.map PyData.bool) ∧ P (.d (.bool (bs.all id))) O
theorem cl_all (hc : X.calm = true) : CallR X (.builtin "all") (rOf X.K sAll) := cr_of (cr_all hc) fun ss O P ⟨a, bs, es, hs, p⟩ F H vs Q sm w vo k => by
  subst es
  cases vo with
  | cons v1 r =>
    cases r
    obtain ⟨q, xs, rfl, hq, ha⟩ := lst_get hs v1 sm w
    have e := dp_bools ha
    subst e
    exact ⟨q, bs, rfl, hq, k _ F H (.d (.bool _)) O (Step.refl sm w) (Dp.bl _) p⟩
abbrev sSorted : DS := fun ss O P => ∃ a ns, ss = [a] ∧ LstD O a (dI ns) ∧ ∀ ns' : List Int, ns'.Perm ns → ns'.Pairwise (· ≤ ·) → P (.d (.list (dI ns'))) O
theorem cl_sorted : CallR X (.builtin "sorted") (rOf X.K sSorted) := cr_of cr_sortedI fun ss O P ⟨a, ns, es, hs, p⟩ F H vs Q sm w vo k => by
  subst es
  cases vo with
  | cons v1 r =>
    cases r
    obtain ⟨q, xs, rfl, hq, ha⟩ := lst_get hs v1 sm w
    have e := dp_ints ha
    subst e
    refine ⟨q, ns, rfl, hq, fun ns' r h1 h2 hr => ?_⟩
    have st := Step.new (o := .lst (ns'.map V.int)) sm w hr
    exact k _ _ _ (.d (.list (dI ns'))) O st (Dp.lst (.inl (.inl upd_same)) (ints_dp ns')) (p ns' h1 h2)
abbrev sIntOf : DS := fun ss O P => (∃ i : Int, ss = [.d (.int i)] ∧ P (.d (.int i)) O) ∨ ∃ b : Bool, ss = [.d (.bool b)] ∧ P (.d (.int (if b then 1 else 0))) O
theorem cl_int : CallR X (.type "int") (rOf X.K sIntOf) := cr_of call_int1 fun ss O P h F H vs Q sm w vo k => by
  rcases h with ⟨i, es, p⟩ | ⟨b, es, p⟩
  · subst es
    cases vo with
    | cons v1 r =>
      cases r
      have v1' : Dp X.K F _ (.int i) := v1
      cases v1'
      exact .inl ⟨i, rfl, k _ F H (.d (.int _)) O (Step.refl sm w) (Dp.int _) p⟩
  · subst es
    cases vo with
    | cons v1 r =>
      cases r
      have v1' : Dp X.K F _ (.bool b) := v1
      cases v1'
      exact .inr ⟨b, rfl, k _ F H (.d (.int _)) O (Step.refl sm w) (Dp.int _) p⟩
abbrev sTuple : DS := fun ss O P => ∃ a ds, ss = [a] ∧ SeqD O a ds ∧ P (.d (.tuple ds)) O
theorem cl_tuple : CallR X (.type "tuple") (rOf X.K sTuple) := cr_of call_tuple_of fun ss O P ⟨a, ds, es, hs, p⟩ F H vs Q sm w vo k => by
  subst es
  cases vo with
  | cons v1 r =>
    cases r
    obtain ⟨q, xs, rfl, hq, ha⟩ := seq_get hs v1 sm w
    rcases hs with e | hs
    · subst e
      have v1' : Dp X.K F (.ref q) (.tuple ds) := v1
      cases v1' with
      | @tup _ ys _ hs2 ha2 => exact ⟨q, ys, rfl, .inr ⟨Same.tupS sm hs2, k _ F H (.d (.tuple ds)) O (Step.refl sm w) (Dp.tup hs2 ha2) p⟩⟩
    · obtain ⟨q', xs', e', hq', ha'⟩ := lst_get (O := O) (ds := ds) hs v1 sm w
      cases e'
      refine ⟨q, xs', rfl, .inl ⟨hq', fun r hr => ?_⟩⟩
      have st := Step.new (o := .tup xs') sm w hr
      exact k _ _ _ (.d (.tuple ds)) O st (Dp.tup (.inl (.inl upd_same)) (dpMonoAll st.ff _ _ ha')) p
/-- list(x): data, or a list that one goes on to change -/
abbrev sList : DS := fun ss O P => ∃ a ds, ss = [a] ∧ SeqD O a ds ∧ (P (.d (.list ds)) O ∨ ∀ p, P (.v (.ref p)) ((p, .lst ds) :: O))
theorem cl_list : CallR X (.type "list") (rOf X.K sList) := cr_of call_list_of fun ss O P ⟨a, ds, es, hs, p⟩ F H vs Q sm w vo k => by
  subst es
  cases vo with
  | cons v1 r =>
    cases r
    obtain ⟨q, xs, rfl, hq, ha⟩ := seq_get hs v1 sm w
    refine ⟨q, xs, rfl, hq, fun r hr => ?_⟩
    rcases p with p | p
    · have st := Step.new (o := .lst xs) sm w hr
      exact k _ _ _ (.d (.list ds)) O st (Dp.lst (.inl (.inl upd_same)) (dpMonoAll st.ff _ _ ha)) p
    · have st := Step.newO (o := .lst xs) (c := .lst ds) sm w hr ⟨xs, rfl, ha⟩
      exact k _ _ _ (.v (.ref r)) _ st rfl (p r)
/-- isinstance(x, T) of data and a built-in type -/
def tyD : PyData → String
  | .none => "NoneType"
  | .bool _ => "bool"
  | .int _ => "int"
  | .str _ => "str"
  | .list _ => "list"
  | .tuple _ => "tuple"
  | .dict _ => "dict"
abbrev sIsi (T : String) : DS := fun ss O P => ∃ d b, ss = [.d d, .v (.ty T)] ∧ kitB (tyD d) T = some b ∧ P (.d (.bool b)) O
theorem tyx_of {K : PySem.W.Frag} {F H : Hp} (sm : Same F H) : ∀ {d : PyData} {v : V}, Dp K F v d → TyX K H v (.type (tyD d)) := fun {d v} h => by
  have hL : ∀ {a : Addr} {xs : List V}, SqL K F a xs → TyX K H (.ref a) (.type "list") := fun {a xs} h => by
    rcases h with (h | ⟨o, h⟩) | ⟨o, its, n, h1, h2, _⟩
    · exact .base (.lst (sm _ _ h))
    · exact .base (.frz (sm _ _ h))
    · exact .kList h1 h2
  have hT : ∀ {a : Addr} {xs : List V}, SqT K F a xs → TyX K H (.ref a) (.type "tuple") := fun {a xs} h => by
    rcases h with (h | ⟨o, h⟩) | ⟨o, its, n, h1, h2, _⟩
    · exact .base (.tup (sm _ _ h))
    · exact .fTuple (sm _ _ h)
    · exact .kTuple h1 h2
  cases h with
  | non => exact .base .non
  | bl b => exact .base (.bl b)
  | int i => exact .base (.int i)
  | str x => exact .base (.str x)
  | lst hs _ => exact hL hs
  | tup hs _ => exact hT hs
theorem cl_isi (T : String) : CallR X (.builtin "isinstance") (rOf X.K (sIsi T)) := cr_of call_isi fun ss O P ⟨d, b, es, hb, p⟩ F H vs Q sm w vo k => by
  subst es
  cases vo with
  | cons v1 r =>
    cases r with
    | cons v2 r =>
      cases r
      have e2 := v2
      unfold VOk at e2
      subst e2
      exact ⟨_, _, _, _, b, rfl, .ty T, tyx_of sm v1, kit_ty hb, k _ F H (.d (.bool _)) O (Step.refl sm w) (Dp.bl _) p⟩
end
/-! ### methods of lists -/
section
variable {K : PySem.W.Frag} {O : Own} {ρ : List Sl} {P : PS1}
/-- o.append(e), o owned, at place i when e is known -/
theorem ev_append {to te : TE} (h : Ev K to O ρ fun a O1 => ∃ p, a = .v (.ref p) ∧ (∃ (i : Nat) (ds : List PyData), O1[i]? = some (p, Oc.lst ds)) ∧ Ev K te O1 ρ fun b O2 => ∃ (i : Nat) (ds : List PyData) (d : PyData), b = .d d ∧ O2[i]? = some (p, Oc.lst ds) ∧ ds.length < sizeLine ∧ P (.d .none) (O2.set i (p, .lst (ds ++ [d])))) :
    Ev K (tBM K "list" rAppend to (tCons te tNil)) O ρ P :=
  fun F H σ Q sm rr w k => h F H σ _ sm rr w fun x F1 H1 a O1 st1 v1 ⟨p, ea, ⟨i0, ds0, e0⟩, h1⟩ => by
    subst ea
    have ex : x = .ref p := v1
    subst ex
    obtain ⟨_, o0, ho0, vs0, eo0, _⟩ := own_get st1.own e0
    subst eo0
    refine ⟨.inl ⟨rfl, _, SqL.of ho0⟩, h1 F1 H1 σ _ st1.fh (rr.mono st1.ff) st1.own fun y F2 H2 b O2 st2 v2 ⟨i, ds, d, eb, e, hz, q⟩ => ?_⟩
    subst eb
    obtain ⟨_, o, ho, vs, eo, hv⟩ := own_get st2.own e
    subst eo
    refine ⟨p, vs, y, rfl, rfl, ho, by rw [dpAll_len hv]; exact hz, ?_⟩
    have st3 := Step.write (o := .lst (vs ++ [y])) (c' := .lst (ds ++ [d])) st2.fh st2.own e ⟨_, rfl, dpAll_append hv (.cons v2 .nil)⟩
    exact k _ F2 _ (.d .none) _ ((st1.trans st2).trans st3) Dp.non q
/-- o.pop(e) -/
theorem ev_popAt {to te : TE} (h : Ev K to O ρ fun a O1 => ∃ p, a = .v (.ref p) ∧ (∃ (i : Nat) (ds : List PyData), O1[i]? = some (p, Oc.lst ds)) ∧ Ev K te O1 ρ fun b O2 => ∃ (i : Nat) (ds : List PyData) (j : Nat) (d : PyData), b = .d (.int (j : Nat)) ∧ O2[i]? = some (p, .lst ds) ∧ j < 2 ^ 62 ∧ ds[j]? = some d ∧ P (.d d) (O2.set i (p, .lst (ds.eraseIdx j)))) :
    Ev K (tBM K "list" rPopAt to (tCons te tNil)) O ρ P :=
  fun F H σ Q sm rr w k => h F H σ _ sm rr w fun x F1 H1 a O1 st1 v1 ⟨p, ea, ⟨i0, ds0, e0⟩, h1⟩ => by
    subst ea
    have ex : x = .ref p := v1
    subst ex
    obtain ⟨_, o0, ho0, vs0, eo0, _⟩ := own_get st1.own e0
    subst eo0
    refine ⟨.inl ⟨rfl, _, SqL.of ho0⟩, h1 F1 H1 σ _ st1.fh (rr.mono st1.ff) st1.own fun y F2 H2 b O2 st2 v2 ⟨i, ds, j, d, eb, e, hj, hd, q⟩ => ?_⟩
    subst eb
    have v2' : Dp K F2 y (.int (j : Nat)) := v2
    cases v2'
    obtain ⟨_, o, ho, vs, eo, hv⟩ := own_get st2.own e
    subst eo
    obtain ⟨v, e1, e2⟩ := dpAll_get hv hd
    have hjl : j < vs.length := (List.getElem?_eq_some_iff.mp e1).1
    have es : seqIndex? (j : Int) vs.length = some j := by
      rw [seqIndex_of (by omega) (by omega)]
      simp
    refine ⟨p, vs, (j : Int), j, v, rfl, rfl, ho, by omega, by omega, es, e1, ?_⟩
    have st3 := Step.write (o := .lst (vs.eraseIdx j)) (c' := .lst (ds.eraseIdx j)) st2.fh st2.own e ⟨_, rfl, dpAll_erase j hv⟩
    exact k _ F2 _ (.d d) _ ((st1.trans st2).trans st3) e2 q
/-- o[e] = v, o owned -/
theorem gw_setL {to ti : TE} {s : Sl} {P : List Sl → Own → Prop} (h : Ev K to O ρ fun a O1 => ∃ p, a = .v (.ref p) ∧ Ev K ti O1 ρ fun b O2 => ∃ (i : Nat) (ds : List PyData) (j : Int) (m : Nat) (d : PyData), b = .d (.int j) ∧ O2[i]? = some (p, .lst ds) ∧ ixN ds.length j = some m ∧ s = .d d ∧ P ρ (O2.set i (p, .lst (ds.set m d)))) :
    Gw K (gSub to ti rSetL) s O ρ P :=
  fun F H σ v Q sm rr w vo k => h F H σ _ sm rr w fun x F1 H1 a O1 st1 v1 ⟨p, ea, h1⟩ => by
    subst ea
    have ex : x = .ref p := v1
    subst ex
    refine h1 F1 H1 σ _ st1.fh (rr.mono st1.ff) st1.own fun y F2 H2 b O2 st2 v2 ⟨i, ds, j, m, d, eb, e, hm, es, q⟩ => ?_
    subst eb
    subst es
    have v2' : Dp K F2 y (.int j) := v2
    cases v2'
    obtain ⟨_, o, ho, vs, eo, hv⟩ := own_get st2.own e
    subst eo
    have dv : Dp K F2 v d := (vo.mono (st1.ff.trans st2.ff) : VOk K F2 v (.d d))
    refine ⟨p, vs, j, m, rfl, rfl, ho, by rw [dpAll_len hv]; exact hm, ?_⟩
    have st3 := Step.write (o := .lst (vs.set m v)) (c' := .lst (ds.set m d)) st2.fh st2.own e ⟨_, rfl, dpAll_set dv m hv⟩
    exact k σ F2 _ ρ _ ((st1.trans st2).trans st3) (rr.mono ((st1.ff.trans st2.ff).trans st3.ff)) q
end
/-! ### a def's promise from its body -/
section
variable {K : PySem.W.Frag}
theorem rok_start {F : Hp} {vs : List V} {ss : List Sl} (h : VsOk K F vs ss) (N : List Str) : ROk K F (L2.start N vs) (ss ++ List.replicate (N.length - ss.length) .u) := by
  have hl := h.len
  refine ⟨?_, fun i s o h1 h2 => ?_⟩
  · unfold L2.start
    rw [List.length_append, List.length_map, List.length_replicate, List.length_append, List.length_replicate, hl]
  · by_cases hi : i < ss.length
    · rw [List.getElem?_append_left hi] at h1
      unfold L2.start at h2
      rw [List.getElem?_append_left (by rw [List.length_map]; omega), List.getElem?_map] at h2
      have key : ∀ {vs : List V} {ss : List Sl} {i : Nat} {s : Sl}, VsOk K F vs ss → ss[i]? = some s → ∃ v, vs[i]? = some v ∧ VOk K F v s := by
        intro vs ss i s h
        induction h generalizing i with
        | nil => intro e; simp at e
        | cons hv _ ih =>
          intro e
          cases i with
          | zero =>
            have e' := Option.some.inj e
            subst e'
            exact ⟨_, rfl, hv⟩
          | succ i => exact ih e
      obtain ⟨v, e1, e2⟩ := key h h1
      rw [e1] at h2
      cases h2
      exact .inr ⟨v, rfl, e2⟩
    · rw [List.getElem?_append_right (by omega), List.getElem?_replicate] at h1
      split at h1
      · cases h1
        exact .inl rfl
      · cases h1
theorem fn_body {S : DS} {t : TS} {N : List Str} (h : ∀ ss O P, S ss O P → StW K t O (ss ++ List.replicate (N.length - ss.length) .u) { nx := fun _ O' => P (.d .none) O', rt := P }) (vs : List V) (H : Hp) (Q : VK) (hS : rOf K S vs H Q) :
    t { nx := fun _ H' => Q .non H', rt := Q } (L2.start N vs) H := by
  obtain ⟨F, ss, O, P, sm, w, vo, hP, k⟩ := hS
  exact h ss O P hP F H (L2.start N vs) _ sm (rok_start vo N) w ⟨fun σ' F' H' ρ' O' st r p => k .non F' H' (.d .none) O' st Dp.non p, fun v F' H' s O' st v1 p => k v F' H' s O' st v1 p, fun _ _ _ _ _ _ _ z => z.elim, fun _ _ _ _ _ _ _ z => z.elim⟩
end
/-- a def of the top that keeps its promise, and how it is called -/
structure Cal (P : Program) (w : World) (K : PySem.W.Frag) (mg : Str → Option Value) (base : Heap) (x : Str) (S : DS) (k : Nat) : Prop where
  ex : ∃ (f : Addr) (fd : FuncData) (ps : List Str), FnOk P w K mg base CX0 k f fd ps (spA K S) ∧ mg x = some (.ref f) ∧ PySem.W.keepIn K (.ref f) = true ∧ Binds K fd ps []
theorem pe_cal {X : Cx} {x : Str} {S : DS} {k : Nat} {e : Expr} {es : List Expr} {t : TA} {p pos : Pos} (C : Cal X.prog X.w X.K X.mg X.base x S k) (hr : Room k X.A) (hg : Gl X x) (ha : PA X (e :: es) t) (hdb : (x == ("__debug__" : Str)) = false := by decide)
    (he : starEach (e :: es) X.env = (false, eval e X.env) :: starEach es X.env := by rfl) (hpl : (backTo pos (starEach es X.env)).any (·.1) = false := by rfl) : PE X (.Call (.Name x p) (e :: es) [] pos) (tCall (spA X.K S) [] E0 t) := by
  obtain ⟨f, fd, ps, F, gm, kp, b⟩ := C.ex
  exact pe_call F hr hg gm kp b .nil pass0 ha hdb he hpl
section
variable {P : Program} {w : World} {K : PySem.W.Frag} {mg : Str → Option Value} {base : Heap}
theorem Cal.mk' {x : Str} {params : Arguments} {body : List Stmt} {scope : Scope} {f : Addr} {fd : FuncData} {N ps : List Str} {k : Nat} {S : DS} (F : FunD K x x params body scope [] [] f fd) (gm : mg x = some (.ref f)) (sc : FnScope N ps scope)
    (hb : Binds K fd ps []) (hl : ∀ ss O P, S ss O P → ss.length = ps.length)
    (h : ∀ (cdv : Value) (A : Around) (outer : List Env) (s : Shared) (H : Hp) (E : XK), Room k (A.deeper (envOfC x scope s.heap.objs.size f cdv)) → ∃ t, PSs (cxOf CX0 P w K mg base N x scope f cdv A outer s H E) body t ∧
      ∀ ss O P, S ss O P → StW K t O (ss ++ List.replicate (N.length - ss.length) .u) { nx := fun _ O' => P (.d .none) O', rt := P }) : Cal P w K mg base x S (k + 1) := by
  refine ⟨f, fd, ps, F.ok sc (fun vs H Q E hS => ?_) (fun cdv A outer s H vs Q E hr hS => ?_), gm, F.kp, hb⟩
  · obtain ⟨F, ss, O, P, _, _, vo, hP, _⟩ := hS
    rw [vo.len]
    exact hl ss O P hP
  · obtain ⟨t, h1, h2⟩ := h cdv A outer s H E hr
    exact ⟨t, h1, fn_body h2 vs H Q hS⟩
theorem Cal.mono {x : Str} {S : DS} {j k : Nat} (C : Cal P w K mg base x S j) (h : j ≤ k) : Cal P w K mg base x S k := by
  obtain ⟨f, fd, ps, F, r⟩ := C.ex
  exact ⟨f, fd, ps, F.mono h, r⟩
end
end AL

/-! zip and enumerate over a list or a tuple each, sum of either -/
namespace ALZ
open PySem PySem.Spec PyProof.Rows
/-- a source: a tuple (tp) or a list; its iterator -/
def Src (tp : Bool) (h : Heap) (l : Addr) (xs : Array Value) : Prop := if tp then h.IsTuple l xs else h.IsList l xs
def SIt (tp : Bool) (h : Heap) (it l : Addr) (i : Nat) : Prop := if tp then h.IsTupleIter it l i else h.IsListIter it l i
def itO (tp : Bool) (l : Addr) : Obj := { cls := .type (if tp then "tuple_iterator" else "list_iterator"), data := .fields #[.ref l, .int 0 0] }
section
variable {tp : Bool} {h h' : Heap} {a b l it : Addr} {i : Nat} {xs : Array Value}
theorem Src.ext (x : Src tp h a xs) (hs : Heap.ExtBut b h h') (hab : a ≠ b) : Src tp h' a xs := by
  cases tp
  · exact Heap.IsList.extBut x hs hab
  · exact Heap.IsTuple.extBut x hs hab
theorem Src.push (x : Src tp h a xs) (o : Obj) : Src tp (h.push o) a xs := by
  cases tp
  · exact Heap.IsList.push x o
  · exact Heap.IsTuple.push x o
theorem Src.lt (x : Src tp h a xs) : a < h.objs.size := by
  cases tp <;> (obtain ⟨o, e, _⟩ := x; exact Heap.lt_size e)
theorem SIt.ext (x : SIt tp h it l i) (hs : Heap.ExtBut b h h') (hab : it ≠ b) : SIt tp h' it l i := by
  cases tp
  · exact Heap.IsListIter.extBut x hs hab
  · exact Heap.IsTupleIter.extBut x hs hab
theorem SIt.at (x : SIt tp h it l i) (e : ∀ o, h.get? it = some o → h'.get? it = some o) : SIt tp h' it l i := by
  cases tp
  · exact Heap.IsListIter.at x e
  · exact Heap.IsTupleIter.at x e
theorem SIt.ob (x : SIt tp h it l i) : ∃ o, h.get? it = some o ∧ ∀ v, o.data ≠ .cell v := by
  cases tp <;> (obtain ⟨o, e, _, d⟩ := x; exact ⟨o, e, fun v q => by rw [d] at q; cases q⟩)
theorem SIt.new (h : Heap) (l : Addr) : SIt tp (h.push (itO tp l)) h.objs.size l 0 := by
  cases tp <;> exact ⟨_, Heap.get?_push_size _ rfl, rfl, rfl⟩
end
section
variable {prog : Program} {w : World} {A : Around} {E : Value → Shared → Prop} {s : Shared} {tp : Bool}
theorem iter_src {l : Addr} {xs : Array Value} {Q : Value → Shared → Prop} (x : Src tp s.heap l xs) (hQ : Q (.ref s.heap.objs.size) { s with heap := s.heap.push (itO tp l) }) : wpAny (model prog w) A (pyIter (.ref l)) Q E s := by
  cases tp
  · exact wpAny_pyIter_list x hQ
  · exact wpAny_pyIter_tuple x hQ
theorem next_item {it l : Addr} {i : Nat} {xs : Array Value} {x : Value} {Q : Value → Shared → Prop} (hit : SIt tp s.heap it l i) (hl : Src tp s.heap l xs) (hx : xs[i]? = some x)
    (hQ : ∀ h', SIt tp h' it l (i + 1) → Heap.SameBut it s.heap h' → Q x { s with heap := h' }) : wpAny (model prog w) A (Builtin.SmallTypes.nextOf (.ref it)) Q E s := by
  cases tp
  · exact wpAny_nextOf_list_item hit hl hx hQ
  · exact RZ.nextOf_tuple_item hit hl hx hQ
theorem next_end {it l : Addr} {i : Nat} {xs : Array Value} {Q : Value → Shared → Prop} (hh : A.handled = none) (hit : SIt tp s.heap it l i) (hl : Src tp s.heap l xs) (hx : xs[i]? = none)
    (hE : ∀ h' e, Heap.ExtBut it s.heap h' → (∃ o, h'.get? e = some o ∧ o.cls = .type "StopIteration") → E (.ref e) { s with heap := h' }) : wpAny (model prog w) A (Builtin.SmallTypes.nextOf (.ref it)) Q E s := by
  cases tp
  · exact wpAny_nextOf_list_end hh hit hl hx hE
  · exact RZ.nextOf_tuple_end hh hit hl hx hE
end
theorem draws {prog : Program} {w : World} {A : Around} {tp : Bool} (hh : A.handled = none) (it l : Addr) (hne : l ≠ it) (xs : Array Value) :
    Draws prog w A it [it, l] xs.size (fun i v => xs[i]? = some v) (fun i h => SIt tp h it l i ∧ Src tp h l xs) where
  live := fun _ _ st => let ⟨o, ho, _⟩ := st.1.ob; ⟨o, ho⟩
  frame := fun i h h' st hk => ⟨st.1.at fun o e => hk it (by simp) o e, by
    cases tp <;> (obtain ⟨o, e, r⟩ := st.2; exact ⟨o, hk l (by simp) o e, r⟩)⟩
  item := fun i s Q E hi st hQ => by
    refine next_item st.1 st.2 (x := xs[i]) (by simp [hi]) fun h' hit' hs' => ?_
    exact hQ _ h' s.toks (by simp [hi]) ⟨hit', st.2.ext hs'.extBut hne⟩ hs'
  done := fun s Q E st hE => next_end hh st.1 st.2 (by simp) hE
/-! ### zip -/
section
variable {prog : Program} {w : World} {A : Around} {E : Value → Shared → Prop} {s : Shared} {t1 t2 : Bool}
/-- what stands apart, what a turn leaves -/
def Kept4 (z TO i1 i2 : Addr) (h h' : Heap) : Prop := ∀ c o, c ≠ z → c ≠ TO → c ≠ i1 → c ≠ i2 → h.get? c = some o → h'.get? c = some o
theorem zipS_item {z TI TO i1 i2 l1 l2 : Addr} {k1 k2 : Nat} {xs ys : Array Value} {x y a b : Value} {Q : Value → Shared → Prop} (D : ZipApart z TI TO i1 i2 l1 l2) (hz : IsZip s.heap z TI TO .none) (hTI : IsPair s.heap TI (.ref i1) (.ref i2))
    (hTO : IsPair s.heap TO a b) (h1 : SIt t1 s.heap i1 l1 k1) (h2 : SIt t2 s.heap i2 l2 k2) (hl1 : Src t1 s.heap l1 xs) (hl2 : Src t2 s.heap l2 ys) (hx : xs[k1]? = some x) (hy : ys[k2]? = some y)
    (hQ : ∀ h', IsZip h' z TI TO (rawInt s.heap.objs.size) → IsPair h' TO x y → SIt t1 h' i1 l1 (k1 + 1) → SIt t2 h' i2 l2 (k2 + 1) → IsPair h' s.heap.objs.size x y → h'.objs.size = s.heap.objs.size + 1 → Kept4 z TO i1 i2 s.heap h' →
      Q (.ref s.heap.objs.size) { s with heap := h' }) : wpAny (model prog w) A (Builtin.«zip.__next__» ⟨[.ref z], []⟩) (fun fin s' => ∃ v, fin = .done (.ret v) ∧ Q v s') E s := by
  have fz : ∀ {Q : Value → Shared → Prop} {n : Nat} {v : Value}, #[Value.none, .bool false, .bool false, .ref TI, .ref TO][n]? = some v → Q v s → wpAny (model prog w) A (field (.ref z) n) Q E s := fun e q => wpAny_field hz rfl e q
  show wpAny _ _ (field (.ref z) 2 >>= _) _ _ _
  refine wpAny_bind (fz (v := .bool false) rfl ?_)
  show wpAny _ _ (field (.ref z) 3 >>= _) _ _ _
  refine wpAny_bind (fz (v := .ref TI) rfl (wpAny_bind (wpAny_seqItems hTI rfl ?_)))
  show wpAny _ _ (Builtin.SmallTypes.ownedTupleIsFree (.ref z) >>= _) _ _ _
  unfold Builtin.SmallTypes.ownedTupleIsFree
  refine wpAny_bind (wpAny_bind (fz (v := .none) rfl (wpAny_pure ?_)))
  simp only [if_true]
  refine wpAny_bind (wpAny_rule (wpAny_bind (fz (v := .ref TO) rfl (wpAny_bind (wpAny_setField_rec hz (by simp) fun g1 z1 e1 => ?_)))))
  replace z1 : IsZip g1 z TI TO .ellipsis := z1
  refine wpAny_bind ?_
  simp only [List.zipIdx_cons, List.zipIdx_nil, List.forIn_cons, List.forIn_nil]
  -- the first one's item
  refine wpAny_bind (wpAny_bind (wpAny_onRaise ?_))
  show wpAny _ _ (Builtin.SmallTypes.nextOf (.ref i1) >>= _) _ _ _
  refine wpAny_bind (next_item (h1.ext e1.extBut D.i1z) (hl1.ext e1.extBut D.l1z) hx fun g2 j1 e2 => wpAny_pure ?_)
  have p2 : IsPair g2 TO a b := e2.extBut _ _ D.TOi1 (e1.extBut _ _ D.TOz hTO)
  refine wpAny_bind (wpAny_seqItems p2 rfl (wpAny_bind (wpAny_updateSeq_pair p2 fun g3 p3 e3 => ?_)))
  replace p3 : IsPair g3 TO x b := p3
  refine wpAny_bind (wpAny_letGo (wpAny_pure ?_))
  -- the second one's item
  refine wpAny_bind (wpAny_bind (wpAny_onRaise ?_))
  show wpAny _ _ (Builtin.SmallTypes.nextOf (.ref i2) >>= _) _ _ _
  have h23 : SIt t2 g3 i2 l2 k2 := ((h2.ext e1.extBut D.i2z).ext e2.extBut D.i12.symm).ext e3.extBut D.TOi2.symm
  have l23 : Src t2 g3 l2 ys := ((hl2.ext e1.extBut D.l2z).ext e2.extBut D.l2i1).ext e3.extBut D.l2TO
  refine wpAny_bind (next_item h23 l23 hy fun g4 j2 e4 => wpAny_pure ?_)
  have p4 : IsPair g4 TO x b := e4.extBut _ _ D.TOi2 p3
  refine wpAny_bind (wpAny_seqItems p4 rfl (wpAny_bind (wpAny_updateSeq_pair p4 fun g5 p5 e5 => ?_)))
  replace p5 : IsPair g5 TO x y := p5
  refine wpAny_bind (wpAny_letGo (wpAny_pure (wpAny_pure ?_)))
  -- the pair is handed out
  refine wpAny_bind (wpAny_seqItems p5 rfl (wpAny_bind (wpAny_newTuple ?_)))
  have sz : g5.objs.size = s.heap.objs.size := by rw [e5.1, e4.1, e3.1, e2.1, e1.1]
  have z5 : IsZip g5 z TI TO .ellipsis := e5.extBut _ _ D.TOz.symm (e4.extBut _ _ D.i2z.symm (e3.extBut _ _ D.TOz.symm (e2.extBut _ _ D.i1z.symm z1)))
  have k5 : Kept4 z TO i1 i2 s.heap g5 := fun c o c1 c2 c3 c4 e => e5.extBut _ _ c2 (e4.extBut _ _ c4 (e3.extBut _ _ c2 (e2.extBut _ _ c3 (e1.extBut _ _ c1 e))))
  have m1 : SIt t1 g5 i1 l1 (k1 + 1) := ((j1.ext e3.extBut D.TOi1.symm).ext e4.extBut D.i12).ext e5.extBut D.TOi1.symm
  have m2 : SIt t2 g5 i2 l2 (k2 + 1) := j2.ext e5.extBut D.TOi2.symm
  have zlt : z < g5.objs.size := Heap.lt_size z5
  show wpAny _ _ (Builtin.SmallTypes.ownedTupleHandOut (.ref z) (.ref g5.objs.size) >>= _) _ _ _
  unfold Builtin.SmallTypes.ownedTupleHandOut
  have z6 : IsZip (g5.push { cls := .type "tuple", data := .seq #[x, y] }) z TI TO .ellipsis := Heap.get?_push_of_some _ z5
  refine wpAny_bind (wpAny_bind (wpAny_setField_rec z6 (by simp) fun g7 z7 e7 => ?_))
  replace z7 : IsZip g7 z TI TO (rawInt g5.objs.size) := z7
  refine wpAny_setField_rec z7 (by simp) fun g8 z8 e8 => ?_
  replace z8 : IsZip g8 z TI TO (rawInt g5.objs.size) := z8
  have up : ∀ c o, c ≠ z → g5.get? c = some o → g8.get? c = some o := fun c o c1 e => e8.extBut _ _ c1 (e7.extBut _ _ c1 (Heap.get?_push_of_some _ e))
  have pr : IsPair g8 g5.objs.size x y := e8.extBut _ _ (Nat.ne_of_gt zlt) (e7.extBut _ _ (Nat.ne_of_gt zlt) (Heap.get?_push_size _ rfl))
  have s8 : g8.objs.size = g5.objs.size + 1 := by rw [e8.1, e7.1, Heap.size_push]
  rw [sz] at z8 pr s8
  refine wpAny_pure ⟨_, rfl, ?_⟩
  show Q (.ref g5.objs.size) _
  rw [sz]
  exact hQ g8 z8 (up _ _ D.TOz p5) (m1.at fun o e => up _ o D.i1z e) (m2.at fun o e => up _ o D.i2z e) pr s8 fun c o c1 c2 c3 c4 e => up c o c1 (k5 c o c1 c2 c3 c4 e)
theorem zipS_end {z TI TO i1 i2 l1 l2 : Addr} {k1 k2 : Nat} {xs ys : Array Value} {a b : Value} {Q : Fin → Shared → Prop} (hh : A.handled = none) (D : ZipApart z TI TO i1 i2 l1 l2) (hz : IsZip s.heap z TI TO .none)
    (hTI : IsPair s.heap TI (.ref i1) (.ref i2)) (hTO : IsPair s.heap TO a b) (h1 : SIt t1 s.heap i1 l1 k1) (h2 : SIt t2 s.heap i2 l2 k2) (hl1 : Src t1 s.heap l1 xs) (hl2 : Src t2 s.heap l2 ys) (hend : xs[k1]? = none ∨ ys[k2]? = none)
    (hE : ∀ h' e, Kept4 z TO i1 i2 s.heap h' → (∃ o, h'.get? e = some o ∧ o.cls = .type "StopIteration") → E (.ref e) { s with heap := h' }) : wpAny (model prog w) A (Builtin.«zip.__next__» ⟨[.ref z], []⟩) Q E s := by
  have fz : ∀ {Q : Value → Shared → Prop} {n : Nat} {v : Value}, #[Value.none, .bool false, .bool false, .ref TI, .ref TO][n]? = some v → Q v s → wpAny (model prog w) A (field (.ref z) n) Q E s := fun e q => wpAny_field hz rfl e q
  have apart : ∀ {h : Heap} {e : Addr} {oe : Obj}, IsZip h z TI TO .ellipsis → h.get? e = some oe → oe.cls = .type "StopIteration" → e ≠ z := fun {h e oe} q ho hc x => by
    rw [x, q] at ho
    cases ho
    simp at hc
  show wpAny _ _ (field (.ref z) 2 >>= _) _ _ _
  refine wpAny_bind (fz (v := .bool false) rfl ?_)
  show wpAny _ _ (field (.ref z) 3 >>= _) _ _ _
  refine wpAny_bind (fz (v := .ref TI) rfl (wpAny_bind (wpAny_seqItems hTI rfl ?_)))
  show wpAny _ _ (Builtin.SmallTypes.ownedTupleIsFree (.ref z) >>= _) _ _ _
  unfold Builtin.SmallTypes.ownedTupleIsFree
  refine wpAny_bind (wpAny_bind (fz (v := .none) rfl (wpAny_pure ?_)))
  simp only [if_true]
  refine wpAny_bind (wpAny_rule (wpAny_bind (fz (v := .ref TO) rfl (wpAny_bind (wpAny_setField_rec hz (by simp) fun g1 z1 e1 => ?_)))))
  replace z1 : IsZip g1 z TI TO .ellipsis := z1
  refine wpAny_bind ?_
  simp only [List.zipIdx_cons, List.zipIdx_nil, List.forIn_cons, List.forIn_nil]
  refine wpAny_bind (wpAny_bind (wpAny_onRaise ?_))
  show wpAny _ _ (Builtin.SmallTypes.nextOf (.ref i1) >>= _) _ _ _
  cases hx : xs[k1]? with
  | none =>
    refine wpAny_bind (next_end hh (h1.ext e1.extBut D.i1z) (hl1.ext e1.extBut D.l1z) hx fun g2 e e2 ⟨oe, ho, hc⟩ => ?_)
    have z2 : IsZip g2 z TI TO .ellipsis := e2 _ _ D.i1z.symm z1
    have ez := apart z2 ho hc
    refine wpAny_setField_rec z2 (by simp) fun g3 _ e3 => hE g3 e (fun c o c1 _ c3 _ x => ?_) ⟨oe, e3.extBut _ _ ez ho, hc⟩
    exact e3.extBut _ _ c1 (e2 _ _ c3 (e1.extBut _ _ c1 x))
  | some x =>
    have hy : ys[k2]? = none := by
      rcases hend with q | q
      · rw [hx] at q
        cases q
      · exact q
    refine wpAny_bind (next_item (h1.ext e1.extBut D.i1z) (hl1.ext e1.extBut D.l1z) hx fun g2 j1 e2 => wpAny_pure ?_)
    have p2 : IsPair g2 TO a b := e2.extBut _ _ D.TOi1 (e1.extBut _ _ D.TOz hTO)
    refine wpAny_bind (wpAny_seqItems p2 rfl (wpAny_bind (wpAny_updateSeq_pair p2 fun g3 p3 e3 => ?_)))
    refine wpAny_bind (wpAny_letGo (wpAny_pure ?_))
    refine wpAny_bind (wpAny_bind (wpAny_onRaise ?_))
    show wpAny _ _ (Builtin.SmallTypes.nextOf (.ref i2) >>= _) _ _ _
    have h23 : SIt t2 g3 i2 l2 k2 := ((h2.ext e1.extBut D.i2z).ext e2.extBut D.i12.symm).ext e3.extBut D.TOi2.symm
    have l23 : Src t2 g3 l2 ys := ((hl2.ext e1.extBut D.l2z).ext e2.extBut D.l2i1).ext e3.extBut D.l2TO
    refine wpAny_bind (next_end hh h23 l23 hy fun g4 e e4 ⟨oe, ho, hc⟩ => ?_)
    have z4 : IsZip g4 z TI TO .ellipsis := e4 _ _ D.i2z.symm (e3.extBut _ _ D.TOz.symm (e2.extBut _ _ D.i1z.symm z1))
    have ez := apart z4 ho hc
    refine wpAny_setField_rec z4 (by simp) fun g5 _ e5 => hE g5 e (fun c o c1 c2 c3 c4 x => ?_) ⟨oe, e5.extBut _ _ ez ho, hc⟩
    exact e5.extBut _ _ c1 (e4 _ _ c4 (e3.extBut _ _ c2 (e2.extBut _ _ c3 (e1.extBut _ _ c1 x))))
theorem zipN_item {z TI TO i1 i2 l1 l2 : Addr} {k1 k2 : Nat} {xs ys : Array Value} {x y a b : Value} {Q : Option Value → Shared → Prop} (D : ZipApart z TI TO i1 i2 l1 l2) (hz : IsZip s.heap z TI TO .none) (hTI : IsPair s.heap TI (.ref i1) (.ref i2))
    (hTO : IsPair s.heap TO a b) (h1 : SIt t1 s.heap i1 l1 k1) (h2 : SIt t2 s.heap i2 l2 k2) (hl1 : Src t1 s.heap l1 xs) (hl2 : Src t2 s.heap l2 ys) (hx : xs[k1]? = some x) (hy : ys[k2]? = some y)
    (hQ : ∀ h', IsZip h' z TI TO (rawInt s.heap.objs.size) → IsPair h' TO x y → SIt t1 h' i1 l1 (k1 + 1) → SIt t2 h' i2 l2 (k2 + 1) → IsPair h' s.heap.objs.size x y → h'.objs.size = s.heap.objs.size + 1 → Kept4 z TO i1 i2 s.heap h' →
      Q (some (.ref s.heap.objs.size)) { s with heap := h' }) : wpAny (model prog w) A (pyNext (.ref z)) Q E s := by
  have hT : s.TypeIs (.ref z) "zip" := ⟨_, hz, rfl⟩
  unfold pyNext
  refine wpAny_bind (wpAny_attempt (wpAny_callSpecial?_slot (name := Str.ofString "__next__") hT F.slot_zip_next (wpAny_call_entry F.slot_zip_next hT F.entry_zip_next ?_ (F.args_zip_next_1 _))))
  exact zipS_item D hz hTI hTO h1 h2 hl1 hl2 hx hy fun h' a1 a2 a3 a4 a5 a6 a7 => wpAny_pure (hQ h' a1 a2 a3 a4 a5 a6 a7)
theorem zipN_end {z TI TO i1 i2 l1 l2 : Addr} {k1 k2 : Nat} {xs ys : Array Value} {a b : Value} {Q : Option Value → Shared → Prop} (hh : A.handled = none) (D : ZipApart z TI TO i1 i2 l1 l2) (hz : IsZip s.heap z TI TO .none)
    (hTI : IsPair s.heap TI (.ref i1) (.ref i2)) (hTO : IsPair s.heap TO a b) (h1 : SIt t1 s.heap i1 l1 k1) (h2 : SIt t2 s.heap i2 l2 k2) (hl1 : Src t1 s.heap l1 xs) (hl2 : Src t2 s.heap l2 ys) (hend : xs[k1]? = none ∨ ys[k2]? = none)
    (hQ : ∀ h', Kept4 z TO i1 i2 s.heap h' → Q none { s with heap := h' }) : wpAny (model prog w) A (pyNext (.ref z)) Q E s := by
  have hT : s.TypeIs (.ref z) "zip" := ⟨_, hz, rfl⟩
  unfold pyNext
  refine wpAny_bind (wpAny_attempt (wpAny_callSpecial?_slot (name := Str.ofString "__next__") hT F.slot_zip_next (wpAny_call_entry F.slot_zip_next hT F.entry_zip_next ?_ (F.args_zip_next_1 _))))
  refine zipS_end hh D hz hTI hTO h1 h2 hl1 hl2 hend fun h' e hk ⟨o, ho, hc⟩ => ?_
  exact wpAny_bind (wpAny_isInstance (T := "StopIteration") (b := true) ⟨o, ho, hc⟩ isSubtype_stop (wpAny_pure (hQ _ hk)))
end
/-! ### making a zip, an enumerate -/
abbrev zH (t1 t2 : Bool) (h : Heap) (l1 l2 : Addr) : Heap := (((h.push (itO t1 l1)).push (itO t2 l2)).push { cls := .type "tuple", data := .seq #[.ref h.objs.size, .ref (h.push (itO t1 l1)).objs.size] }).push { cls := .type "tuple", data := .seq #[.none, .none] }
abbrev zO (t1 t2 : Bool) (h : Heap) (l1 l2 : Addr) : Obj := { cls := .type "zip", data := .fields #[.none, .bool false, .bool false, .ref ((h.push (itO t1 l1)).push (itO t2 l2)).objs.size, .ref (((h.push (itO t1 l1)).push (itO t2 l2)).push { cls := .type "tuple", data := .seq #[.ref h.objs.size, .ref (h.push (itO t1 l1)).objs.size] }).objs.size] }
theorem meets_zipS (t1 t2 : Bool) (l1 l2 : Addr) (xs ys : Array Value) :
    Meets (Builtin.«zip.__new__» ⟨[.type "zip", .ref l1, .ref l2], []⟩) (fun _ R s => Src t1 s.heap l1 xs ∧ Src t2 s.heap l2 ys ∧ R (.ok (.ret (.ref (zH t1 t2 s.heap l1 l2).objs.size))) { s with heap := (zH t1 t2 s.heap l1 l2).push (zO t1 t2 s.heap l1 l2) }) :=
  .of_wp fun prog w A R s h => by
    obtain ⟨hp, g, d, tk, os⟩ := s
    obtain ⟨q1, q2, q⟩ := h
    have hsub := sub_zip
    have L1 : Src t1 (Shared.heap ⟨hp, g, d, tk, os⟩) l1 xs := q1
    have L2 : Src t2 (Shared.heap ⟨hp.push (itO t1 l1), g, d, tk, os⟩) l2 ys := Src.push q2 _
    wp_walk using iter_src L1, iter_src L2
    exact ⟨_, rfl, q⟩
section
variable {prog : Program} {w : World} {A : Around} {E : Value → Shared → Prop} {s : Shared}
theorem call_zipS {t1 t2 : Bool} {l1 l2 : Addr} {xs ys : Array Value} {Q : Value → Shared → Prop} (hl1 : Src t1 s.heap l1 xs) (hl2 : Src t2 s.heap l2 ys)
    (h : ∀ h', IsZip h' (s.heap.objs.size + 4) (s.heap.objs.size + 2) (s.heap.objs.size + 3) .none → IsPair h' (s.heap.objs.size + 2) (.ref s.heap.objs.size) (.ref (s.heap.objs.size + 1)) → IsPair h' (s.heap.objs.size + 3) .none .none →
      SIt t1 h' s.heap.objs.size l1 0 → SIt t2 h' (s.heap.objs.size + 1) l2 0 → (∀ c o, s.heap.get? c = some o → h'.get? c = some o) → Q (.ref (s.heap.objs.size + 4)) { s with heap := h' }) :
    wpAny (model prog w) A (call (.type "zip") [.ref l1, .ref l2]) Q E s := by
  refine callType_new F.called_zip (by decide) (F.typeCall_zip_2 _ _) (F.newCall_zip_2 _ _) (fun obj => F.args_object_init_3 obj _ _) F.entry_zip_new (meets_zipS t1 t2 l1 l2 xs ys) ⟨hl1, hl2, ?_⟩
  have n1 : (s.heap.push (itO t1 l1)).objs.size = s.heap.objs.size + 1 := Heap.size_push ..
  have n2 : ((s.heap.push (itO t1 l1)).push (itO t2 l2)).objs.size = s.heap.objs.size + 2 := by rw [Heap.size_push, n1]
  have n3 : (((s.heap.push (itO t1 l1)).push (itO t2 l2)).push { cls := .type "tuple", data := .seq #[.ref s.heap.objs.size, .ref (s.heap.push (itO t1 l1)).objs.size] }).objs.size = s.heap.objs.size + 3 := by rw [Heap.size_push, n2]
  have n4 : (zH t1 t2 s.heap l1 l2).objs.size = s.heap.objs.size + 4 := by rw [Heap.size_push, n3]
  have pu : ∀ {h : Heap} {c : Addr} {o u : Obj}, h.get? c = some o → (h.push u).get? c = some o := fun e => Heap.get?_push_of_some _ e
  have g5 : ((zH t1 t2 s.heap l1 l2).push (zO t1 t2 s.heap l1 l2)).get? (zH t1 t2 s.heap l1 l2).objs.size = some (zO t1 t2 s.heap l1 l2) := Heap.get?_push_size _ rfl
  have g4 : ((zH t1 t2 s.heap l1 l2).push (zO t1 t2 s.heap l1 l2)).get? (((s.heap.push (itO t1 l1)).push (itO t2 l2)).push { cls := .type "tuple", data := .seq #[.ref s.heap.objs.size, .ref (s.heap.push (itO t1 l1)).objs.size] }).objs.size = some _ := pu (Heap.get?_push_size _ rfl)
  have g3 : ((zH t1 t2 s.heap l1 l2).push (zO t1 t2 s.heap l1 l2)).get? ((s.heap.push (itO t1 l1)).push (itO t2 l2)).objs.size = some _ := pu (pu (Heap.get?_push_size _ rfl))
  have i2 : SIt t2 ((zH t1 t2 s.heap l1 l2).push (zO t1 t2 s.heap l1 l2)) (s.heap.push (itO t1 l1)).objs.size l2 0 := (SIt.new _ _).at fun o e => pu (pu (pu e))
  have i1 : SIt t1 ((zH t1 t2 s.heap l1 l2).push (zO t1 t2 s.heap l1 l2)) s.heap.objs.size l1 0 := (SIt.new _ _).at fun o e => pu (pu (pu (pu e)))
  show _ ∧ _
  unfold zO at g5
  rw [n4, n3, n2] at g5
  rw [n2, n1] at g3
  rw [n3] at g4
  rw [n1] at i2
  rw [n4]
  unfold zO
  rw [n3, n2]
  unfold zO at g3 g4 i1 i2
  rw [n3, n2] at g3 g4 i1 i2
  exact ⟨⟨_, g5, rfl⟩, h _ g5 g3 g4 i1 i2 fun c o x => pu (pu (pu (pu (pu x))))⟩
end
end ALZ

namespace AL
open PySem PySem.Spec PyProof.Rows L2
/-! ### constants of the module -/
section
variable {X : Cx}
theorem pe_gint {x : Str} {i : Int} {pos : Pos} (hg : Gl X x) (hm : ∃ t, X.mg x = some (.int i t)) (hd : (x == ("__debug__" : Str)) = false := by decide) : PE X (.Name x pos) (tC (.int i)) := by
  obtain ⟨t, h⟩ := hm
  exact pe_glob hg h ⟨t, rfl⟩ hd
theorem pe_gstr {x : Str} {i : Str} {pos : Pos} (hg : Gl X x) (hm : ∃ t, X.mg x = some (.str i t)) (hd : (x == ("__debug__" : Str)) = false := by decide) : PE X (.Name x pos) (tC (.str i)) := by
  obtain ⟨t, h⟩ := hm
  exact pe_glob hg h ⟨t, rfl⟩ hd
end
section
variable {K : PySem.W.Frag} {O : Own} {ρ : List Sl} {P : PS1}
theorem ev_gt {ta tb : TE} (h : Ev K ta O ρ fun a O1 => ∃ i, a = .d (.int i) ∧ Ev K tb O1 ρ fun b O2 => ∃ j, b = .d (.int j) ∧ P (.d (.bool (decide (i > j)))) O2) : Ev K (tOp (rI0 fun i j => .bl (decide (i > j))) ta tb) O ρ P := ev_i0 (fun _ _ _ => .bl _) h
theorem ev_ge {ta tb : TE} (h : Ev K ta O ρ fun a O1 => ∃ i, a = .d (.int i) ∧ Ev K tb O1 ρ fun b O2 => ∃ j, b = .d (.int j) ∧ P (.d (.bool (decide (i ≥ j)))) O2) : Ev K (tOp (rI0 fun i j => .bl (decide (i ≥ j))) ta tb) O ρ P := ev_i0 (fun _ _ _ => .bl _) h
end
/-! ### a list or a tuple -/
def SqX (tp : Bool) (K : PySem.W.Frag) (H : Hp) (a : Addr) (xs : List V) : Prop := if tp then SqT K H a xs else SqL K H a xs
section
variable {X : Cx}
theorem inv_src {pins : List (Addr × Obj)} {σ : L2.St} {H : Hp} {s : Shared} {tp : Bool} {a : Addr} {xs : List V} (I : Inv X pins σ H s) (h : SqX tp X.K H a xs) : ∃ its, Vals xs its ∧ ALZ.Src tp s.heap a its.toArray ∧ a < s.heap.objs.size := by
  cases tp with
  | false =>
    obtain ⟨its, rv, p, _⟩ := I.list h
    exact ⟨its, rv, p.isList, p.lt⟩
  | true =>
    obtain ⟨its, rv, p, _⟩ := I.tuple h
    have p2 : ALZ.Src true s.heap a its.toArray := p
    exact ⟨its, rv, p2, p2.lt⟩
theorem inv_inj {pins : List (Addr × Obj)} {σ : L2.St} {H : Hp} {s : Shared} {tp : Bool} {a : Addr} {xs ys : List V} (I : Inv X pins σ H s) (h : SqX tp X.K H a xs) (g : SqX tp X.K H a ys) : xs = ys := by
  cases tp with
  | false => exact I.list_inj h g
  | true => exact I.tuple_inj h g
/-- the walk of a list or a tuple -/
def iSeq (K : PySem.W.Frag) (tl : TE) : TI := fun σ H R => tl σ H fun x H1 => ∃ a, x = .ref a ∧ (((∃ xs, SqL K H1 a xs) ∧ R (Itl K a) H1) ∨ ((∃ xs, SqT K H1 a xs) ∧ R (Itt K a) H1))
theorem pi_seq {tg l : Expr} {tl : TE} (hl : PE X l tl) : PI X tg l (iSeq X.K tl) := by
  refine ⟨fun pins s σ H R I h => ?_⟩
  refine thn (hl.run pins s σ H _ I h) fun v s1 ⟨x, H1, I1, r1, q1⟩ => ?_
  obtain ⟨a, e, q1⟩ := q1
  subst e
  cases r1
  have fr : ∀ b ∈ [s1.heap.objs.size], FpOk X pins H1 b := fun b hb => by
    have e : b = s1.heap.objs.size := by simpa using hb
    subst e
    exact I1.fpOk (Nat.le_refl _) (I1.hok.fresh (Nat.le_refl _))
  rcases q1 with ⟨⟨xs, hq⟩, q⟩ | ⟨⟨xs, hq⟩, q⟩
  · obtain ⟨its, rv, p, hz⟩ := I1.list hq
    refine wpAny_pyIter_list p.isList ?_
    exact ⟨s1.heap.objs.size, [s1.heap.objs.size], _, _, H1, rfl, I1.kept (t' := s1.toks) fun b o e => Heap.get?_push_of_some _ e, turn_list a _, ⟨_, Heap.get?_push_size _ rfl, rfl, rfl⟩, fr, q⟩
  · obtain ⟨its, rv, p, hz⟩ := I1.tuple hq
    refine wpAny_pyIter_tuple (show s1.heap.IsTuple a its.toArray from p) ?_
    exact ⟨s1.heap.objs.size, [s1.heap.objs.size], _, _, H1, rfl, I1.kept (t' := s1.toks) fun b o e => Heap.get?_push_of_some _ e, turn_tuple a _, ⟨_, Heap.get?_push_size _ rfl, rfl, rfl⟩, fr, q⟩
theorem sl_any : SlR X (fun x lo hi H Q => rSlL X.K x lo hi H Q ∨ rSlA X.K x lo hi H Q) := sl_list.or sl_tupA
/-! ### zip over either -/
def ItzS (t1 t2 : Bool) (K : PySem.W.Frag) (a b : Addr) : It :=
  ⟨fun i H => ∃ (xs ys : List V) (x y : V), SqX t1 K H a xs ∧ SqX t2 K H b ys ∧ xs[i]? = some x ∧ ys[i]? = some y,
    fun i H v H' => ∃ T x y, v = .ref T ∧ H T = none ∧ H' = upd H T (.tup [x, y]) ∧ (∀ xs, SqX t1 K H a xs → xs[i]? = some x) ∧ ∀ ys, SqX t2 K H b ys → ys[i]? = some y,
    fun i H => ∃ xs ys : List V, SqX t1 K H a xs ∧ SqX t2 K H b ys ∧ (xs.length ≤ i ∨ ys.length ≤ i)⟩
theorem turn_zipS {t1 t2 : Bool} {P : Program} {w : World} {K : PySem.W.Frag} {elts : List Expr} {kk : Nat} {tpos : Pos} {a b z TI TO i1 i2 : Addr} (D : ZipApart z TI TO i1 i2 a b) :
    Turn P w K (.Tuple elts kk tpos) (ItzS t1 t2 K a b) [z, TI, TO, i1, i2] z (fun i h => IsZip h z TI TO .none ∧ IsPair h TI (.ref i1) (.ref i2) ∧ (∃ x y, IsPair h TO x y) ∧ ALZ.SIt t1 h i1 a i ∧ ALZ.SIt t2 h i2 b i) where
  mem := by simp
  obj := fun i h st c hc => by
    obtain ⟨hz, hTI, ⟨x, y, hTO⟩, h1, h2⟩ := st
    have e' : c = z ∨ c = TI ∨ c = TO ∨ c = i1 ∨ c = i2 := by simpa using hc
    rcases e' with q | q | q | q | q
    · rw [q]; exact ⟨_, hz, fun v q => nomatch q⟩
    · rw [q]; exact ⟨_, hTI, fun v q => nomatch q⟩
    · rw [q]; exact ⟨_, hTO, fun v q => nomatch q⟩
    · rw [q]; exact h1.ob
    · rw [q]; exact h2.ob
  keep := fun i h h' st k => by
    obtain ⟨hz, hTI, ⟨x, y, hTO⟩, h1, h2⟩ := st
    exact ⟨k z (by simp) _ hz, k TI (by simp) _ hTI, ⟨x, y, k TO (by simp) _ hTO⟩, h1.at fun o q => k i1 (by simp) o q, h2.at fun o q => k i2 (by simp) o q⟩
  item := by
    intro X hP hw hK hc i pins s σ H E I hf st hg
    subst hP hw hK
    obtain ⟨hz, hTI, ⟨x0, y0, hTO⟩, h1, h2⟩ := st
    obtain ⟨xs, ys, x, y, hqx, hqy, hx, hy⟩ := hg
    obtain ⟨its, rv, p, _⟩ := inv_src I hqx
    obtain ⟨its2, rv2, p2, _⟩ := inv_src I hqy
    obtain ⟨u, hu, ru⟩ := rv.get hx
    obtain ⟨u2, hu2, ru2⟩ := rv2.get hy
    have hzl : z < s.heap.objs.size := Heap.lt_size hz
    refine ALZ.zipN_item D hz hTI hTO h1 h2 p p2 (x := u) (y := u2) (by simpa using hu) (by simpa using hu2) fun h' z' TO' h1' h2' hT hsz hk => ?_
    refine ⟨_, rfl, wpAny_letOwnedTupleGo_zip (s := { s with heap := h' }) z' fun h'' z'' sb => ?_⟩
    have hT2 : h''.get? s.heap.objs.size = some { cls := .type "tuple", data := .seq #[u, u2] } := (sb.2 _ (Nat.ne_of_gt hzl)).trans hT
    have new : ObjOk X.prog X.w (upd H s.heap.objs.size (.tup [x, y])) h'' s.heap.objs.size (.tup [x, y]) :=
      ⟨by show 2 ≤ sizeLine; decide, [u, u2], .cons ru (.cons ru2 .nil), ⟨_, hT2, rfl, _, rfl⟩⟩
    have I1 : Inv X pins σ (upd H s.heap.objs.size (.tup [x, y])) { s with heap := h'' } :=
      I.turnedNew (t' := s.toks) (ch := [z, TI, TO, i1, i2]) (fun c o hb q => (sb.2 c (fun q' => hb (by simp [q']))).trans (hk c o (fun q' => hb (by simp [q'])) (fun q' => hb (by simp [q'])) (fun q' => hb (by simp [q'])) (fun q' => hb (by simp [q'])) q)) hf (Nat.le_refl _) new
    refine ⟨.ref s.heap.objs.size, _, I1, rfl, ⟨_, x, y, rfl, I.hok.fresh (Nat.le_refl _), rfl, fun l hl => by rw [inv_inj I hl hqx]; exact hx, fun l hl => by rw [inv_inj I hl hqy]; exact hy⟩, ⟨z'', ?_, ⟨u, u2, ?_⟩, ?_, ?_⟩, fun c hcm => ?_⟩
    · exact (sb.2 _ D.TIz).trans (hk _ _ D.TIz D.TITO D.TIi1 D.TIi2 hTI)
    · exact (sb.2 _ D.TOz).trans TO'
    · exact h1'.at fun o q => (sb.2 _ D.i1z).trans q
    · exact h2'.at fun o q => (sb.2 _ D.i2z).trans q
    · have hlt : c < s.heap.objs.size := by
        have e' : c = z ∨ c = TI ∨ c = TO ∨ c = i1 ∨ c = i2 := by simpa using hcm
        rcases e' with q | q | q | q | q
        · rw [q]; exact hzl
        · rw [q]; exact Heap.lt_size hTI
        · rw [q]; exact Heap.lt_size hTO
        · rw [q]; obtain ⟨_, e1, _⟩ := h1.ob; exact Heap.lt_size e1
        · rw [q]; obtain ⟨_, e2, _⟩ := h2.ob; exact Heap.lt_size e2
      rw [upd_ne (Nat.ne_of_lt hlt)]
      exact (hf c hcm).1
  done := by
    intro X hP hw hK hc i pins s σ H E I hf st hg
    subst hP hw hK
    obtain ⟨hz, hTI, ⟨x0, y0, hTO⟩, h1, h2⟩ := st
    obtain ⟨xs, ys, hqx, hqy, hend⟩ := hg
    obtain ⟨its, rv, p, _⟩ := inv_src I hqx
    obtain ⟨its2, rv2, p2, _⟩ := inv_src I hqy
    have l1 := rv.length
    have l2 := rv2.length
    have he : its.toArray[i]? = none ∨ its2.toArray[i]? = none := by
      rcases hend with q | q
      · exact .inl (by simp; omega)
      · exact .inr (by simp; omega)
    exact ALZ.zipN_end (I.ok.hd hc) D hz hTI hTO h1 h2 p p2 he fun h' hk => ⟨rfl, I.turnedL (t' := s.toks) (ch := [z, TI, TO, i1, i2]) (fun c o hb q =>
      hk c o (fun q' => hb (by simp [q'])) (fun q' => hb (by simp [q'])) (fun q' => hb (by simp [q'])) (fun q' => hb (by simp [q'])) q) hf⟩
  self := fun A i s Q E st h => wpAny_pyIter_zip st.1 h
def iZipS (K : PySem.W.Frag) (ta : TA) : TI := fun σ H R => ta σ H fun vs H1 => ∃ t1 t2 a b xs ys, vs = [.ref a, .ref b] ∧ SqX t1 K H1 a xs ∧ SqX t2 K H1 b ys ∧ R (ItzS t1 t2 K a b) H1
theorem pi_zipU {e e2 : Expr} {ta : TA} {p pos tpos : Pos} {elts : List Expr} {kk : Nat} (hg : Gl X "zip") (hm : X.mg "zip" = none) (ha : PA X [e, e2] ta)
    (hs : starEach [e, e2] X.env = (false, eval e X.env) :: starEach [e2] X.env := by rfl) (hpl : (backTo pos (starEach [e2] X.env)).any (·.1) = false := by rfl) :
    PI X (.Tuple elts kk tpos) (.Call (.Name "zip" p) [e, e2] [] pos) (iZipS X.K ta) := by
  refine ⟨fun pins s σ H R I h => ?_⟩
  refine Call_ (ld_blt I hg hm PyProof.Rows.boot_zip (PyProof.Rows.callWith_type1 (thn (ha.run pos pins s σ H _ I h) fun us s1 ⟨vs, H1, I1, r1, q1⟩ => ?_) hs hpl))
  obtain ⟨t1, t2, a, b, xs, ys, ex, hqx, hqy, q⟩ := q1
  subst ex
  cases r1 with
  | cons r rr =>
    cases rr with
    | cons r' rr =>
      cases rr
      cases r
      cases r'
      have fresh5 : ∀ c, c ∈ [s1.heap.objs.size + 4, s1.heap.objs.size + 2, s1.heap.objs.size + 3, s1.heap.objs.size, s1.heap.objs.size + 1] → FpOk X pins H1 c := fun c hcm => by
        have hle : s1.heap.objs.size ≤ c := by
          have e' : c = s1.heap.objs.size + 4 ∨ c = s1.heap.objs.size + 2 ∨ c = s1.heap.objs.size + 3 ∨ c = s1.heap.objs.size ∨ c = s1.heap.objs.size + 1 := by simpa using hcm
          rcases e' with z | z | z | z | z <;> (rw [z]; first | exact Nat.le_refl _ | exact Nat.le_add_right _ _)
        exact I1.fpOk hle (I1.hok.fresh hle)
      obtain ⟨its, rv, p1, lt1⟩ := inv_src I1 hqx
      obtain ⟨its2, rv2, p2, lt2⟩ := inv_src I1 hqy
      refine ALZ.call_zipS p1 p2 fun h' hz hTI hTO h1 h2 hk => wpAny_pyIter_zip hz ?_
      have I2 : Inv X pins σ H1 { s1 with heap := h' } := I1.kept (t' := s1.toks) hk
      exact ⟨s1.heap.objs.size + 4, [s1.heap.objs.size + 4, s1.heap.objs.size + 2, s1.heap.objs.size + 3, s1.heap.objs.size, s1.heap.objs.size + 1], _, _, H1, rfl, I2, turn_zipS (PySem.W.ktu_apart s1.heap.objs.size a b lt1 lt2), ⟨hz, hTI, ⟨_, _, hTO⟩, h1, h2⟩, fresh5, q⟩
end
/-! ### enumerate over either -/
abbrev enO (h : Heap) : Obj := { cls := .type "enumerate", data := .fields #[.none, .bool false, .ref h.objs.size, rawInt 0, .none, .none] }
theorem meets_enumS (tp : Bool) (l : Addr) (xs : Array Value) (ob : Obj) (hob : ob.cls = .type (if tp then "tuple" else "list")) :
    Meets (Builtin.«enumerate.__new__» ⟨[.type "enumerate", .ref l], []⟩) (fun _ R s => s.heap.get? l = some ob ∧ ALZ.Src tp s.heap l xs ∧ R (.ok (.ret (.ref (s.heap.push (ALZ.itO tp l)).objs.size))) { s with heap := (s.heap.push (ALZ.itO tp l)).push (enO s.heap) }) :=
  .of_wp fun prog w A R s h => by
    obtain ⟨hp, g, d, tk, os⟩ := s
    obtain ⟨hl, hL, h⟩ := h
    have hsub := sub_enumerate
    obtain ⟨cl, dct, dt, sl⟩ := ob
    replace hob : cl = .type (if tp then "tuple" else "list") := hob
    have hL' : ALZ.Src tp (Shared.heap ⟨hp, g, d, tk, os⟩) l xs := hL
    cases tp
    · replace hob : cl = .type "list" := hob
      subst hob
      wp_walk using AutoSeq1.wpAny_loadPart' hl
      refine wpAny_stack_any fun st => wpAny_pure ?_
      split
      · rename_i c _ _ _ _ _
        cases (c == Value.type "enumerate")
        · wp_walk using AutoSeq1.wpAny_loadPart' hl, ALZ.iter_src hL'
          exact ⟨_, rfl, h⟩
        · wp_walk using AutoSeq1.wpAny_loadPart' hl, ALZ.iter_src hL'
          exact ⟨_, rfl, h⟩
      · wp_walk using AutoSeq1.wpAny_loadPart' hl, ALZ.iter_src hL'
        exact ⟨_, rfl, h⟩
    · replace hob : cl = .type "tuple" := hob
      subst hob
      wp_walk using AutoSeq1.wpAny_loadPart' hl
      refine wpAny_stack_any fun st => wpAny_pure ?_
      split
      · rename_i c _ _ _ _ _
        cases (c == Value.type "enumerate")
        · wp_walk using AutoSeq1.wpAny_loadPart' hl, ALZ.iter_src hL'
          exact ⟨_, rfl, h⟩
        · wp_walk using AutoSeq1.wpAny_loadPart' hl, ALZ.iter_src hL'
          exact ⟨_, rfl, h⟩
      · wp_walk using AutoSeq1.wpAny_loadPart' hl, ALZ.iter_src hL'
        exact ⟨_, rfl, h⟩
theorem call_enumS {prog : Program} {w : World} {A : Around} {E : Value → Shared → Prop} {s : Shared} {tp : Bool} {l : Addr} {xs : Array Value} {Q : Value → Shared → Prop} (hL : ALZ.Src tp s.heap l xs)
    (h : ∀ h', IsEnum h' (s.heap.objs.size + 1) s.heap.objs.size 0 .none → ALZ.SIt tp h' s.heap.objs.size l 0 → (∀ b o, s.heap.get? b = some o → h'.get? b = some o) → Q (.ref (s.heap.objs.size + 1)) { s with heap := h' }) :
    wpAny (model prog w) A (call (.type "enumerate") [.ref l]) Q E s := by
  have ⟨ob, hob, hcl⟩ : ∃ ob, s.heap.get? l = some ob ∧ ob.cls = .type (if tp then "tuple" else "list") := by
    cases tp <;> (obtain ⟨o, e, c, _⟩ := hL; exact ⟨o, e, c⟩)
  refine callType_new F.called_enumerate (by decide) (F.typeCall_enumerate_1 _) (F.newCall_enumerate_1 _) (fun obj => F.args_object_init_2 obj _) F.entry_enumerate_new
    (meets_enumS tp l xs ob hcl) ⟨hob, hL, ?_⟩
  have hz : (s.heap.push (ALZ.itO tp l)).objs.size = s.heap.objs.size + 1 := Heap.size_push ..
  show _ ∧ _
  rw [hz]
  have he : IsEnum ((s.heap.push (ALZ.itO tp l)).push (enO s.heap)) (s.heap.objs.size + 1) s.heap.objs.size 0 .none := by
    have := Heap.get?_push_size (s.heap.push (ALZ.itO tp l)) (o := enO s.heap) rfl
    rw [hz] at this; exact this
  exact ⟨⟨_, he, rfl⟩, h _ he ((ALZ.SIt.new _ _).at fun o e => Heap.get?_push_of_some _ e) fun b o x => Heap.get?_push_of_some _ (Heap.get?_push_of_some _ x)⟩
section
variable {X : Cx}
def IteS (tp : Bool) (K : PySem.W.Frag) (a : Addr) : It :=
  ⟨fun i H => ∃ (xs : List V) (x : V), SqX tp K H a xs ∧ xs[i]? = some x, fun i H v H' => ∃ T x, v = .ref T ∧ H T = none ∧ H' = upd H T (.tup [.int (i : Nat), x]) ∧ ∀ xs, SqX tp K H a xs → xs[i]? = some x, fun i H => ∃ xs : List V, SqX tp K H a xs ∧ xs.length = i⟩
theorem turn_enumS {tp : Bool} {P : Program} {w : World} {K : PySem.W.Frag} {elts : List Expr} {kk : Nat} {tpos : Pos} (a e it : Addr) :
    Turn P w K (.Tuple elts kk tpos) (IteS tp K a) [e, it] e (fun i h => (∃ old, IsEnum h e it ((i : Nat) : Int) old) ∧ ALZ.SIt tp h it a i ∧ e ≠ it ∧ a ≠ it ∧ a ≠ e) where
  mem := by simp
  obj := fun i h st b hb => by
    obtain ⟨⟨old, he⟩, hi, _⟩ := st
    have e' : b = e ∨ b = it := by simpa using hb
    rcases e' with z | z
    · rw [z]; exact ⟨_, he, fun v q => nomatch q⟩
    · rw [z]; exact hi.ob
  keep := fun i h h' st k => let ⟨⟨old, he⟩, hi, hne⟩ := st; ⟨⟨old, k e (by simp) _ he⟩, hi.at fun o q => k it (by simp) o q, hne⟩
  item := by
    intro X hP hw hK hc i pins s σ H E I hf st hg
    subst hP hw hK
    obtain ⟨⟨old, he⟩, hit, hne, ha1, ha2⟩ := st
    obtain ⟨xs, x, hq, hx⟩ := hg
    obtain ⟨its, rv, p, hal⟩ := inv_src I hq
    obtain ⟨u, hu, ru⟩ := rv.get hx
    have hel : e < s.heap.objs.size := Heap.lt_size he
    have hil : it < s.heap.objs.size := by obtain ⟨_, q, _⟩ := hit.ob; exact Heap.lt_size q
    have hsz : i < its.toArray.size := by
      have := (List.getElem?_eq_some_iff.mp hu).1
      simpa using this
    refine wpAny_pyNext_enum_itemD (ALZ.draws (A := X.A.in1) (I.ok.hd hc) it a ha1 its.toArray) he ⟨hit, p⟩ hsz hne (by simp; exact ⟨hne, fun z => ha2 z.symm⟩) fun x' h' tk hP' ho hst hT hsz hk => ?_
    have hxu : x' = u := by
      have e1 : its.toArray[i]? = some x' := hP'
      have e2 : its.toArray[i]? = some u := by simpa using hu
      rw [e1] at e2
      exact Option.some.inj e2
    subst hxu
    refine ⟨_, rfl, wpAny_letOwnedTupleGo_enum (s := { s with heap := h', toks := tk + 1 }) ho fun h'' he' sb => ?_⟩
    have hT2 : h''.get? s.heap.objs.size = some { cls := .type "tuple", data := .seq #[.int i tk, x'] } := (sb.2 _ (Nat.ne_of_gt hel)).trans hT
    have new : ObjOk X.prog X.w (upd H s.heap.objs.size (.tup [.int (i : Nat), x])) h'' s.heap.objs.size (.tup [.int (i : Nat), x]) :=
      ⟨by show 2 ≤ sizeLine; decide, [.int i tk, x'], .cons ⟨_, rfl⟩ (.cons ru .nil), ⟨_, hT2, rfl, _, rfl⟩⟩
    have I1 : Inv X pins σ (upd H s.heap.objs.size (.tup [.int (i : Nat), x])) { s with heap := h'', toks := tk + 1 } :=
      I.turnedNew (ch := [e, it]) (fun b ob hb q => (sb.2 b (fun z => hb (by simp [z]))).trans (hk b ob (fun z => hb (by simp [z])) (fun z => hb (by simp [z])) q)) hf (Nat.le_refl _) new
    refine ⟨.ref s.heap.objs.size, _, I1, rfl, ⟨_, x, rfl, I.hok.fresh (Nat.le_refl _), rfl, fun ys hy => by rw [inv_inj I hy hq]; exact hx⟩, ⟨⟨x', ?_⟩, hst.1.at fun o q => (sb.2 it (Ne.symm hne)).trans q, hne, ha1, ha2⟩, fun b hb => ?_⟩
    · have e1 : ((i + 1 : Nat) : Int) = (i : Int) + 1 := by omega
      rw [e1]; exact he'
    · have hb' : b < s.heap.objs.size := by
        have e' : b = e ∨ b = it := by simpa using hb
        rcases e' with z | z
        · rw [z]; exact hel
        · rw [z]; exact hil
      rw [upd_ne (Nat.ne_of_lt hb')]
      exact (hf b hb).1
  done := by
    intro X hP hw hK hc i pins s σ H E I hf st hg
    subst hP hw hK
    obtain ⟨⟨old, he⟩, hit, hne, ha1, ha2⟩ := st
    obtain ⟨xs, hq, hx⟩ := hg
    obtain ⟨its, rv, p, _⟩ := inv_src I hq
    have hl := rv.length
    have esz : its.toArray.size = i := by simp; omega
    have D := ALZ.draws (prog := X.prog) (w := X.w) (A := X.A.in1) (tp := tp) (I.ok.hd hc) it a ha1 its.toArray
    refine wpAny_pyNext_enum_endD D he (by rw [esz]; exact ⟨hit, p⟩) fun h' eb => ⟨rfl, I.turnedL (t' := s.toks) (ch := [e, it]) (fun b o hb q => eb b o (fun z => hb (by simp [z])) q) hf⟩
  self := fun A i s Q E st h => let ⟨⟨_, he⟩, _⟩ := st; wpAny_pyIter_enum he h
def iEnumS (K : PySem.W.Frag) (ta : TA) : TI := fun σ H R => ta σ H fun vs H1 => ∃ tp a xs, vs = [.ref a] ∧ SqX tp K H1 a xs ∧ R (IteS tp K a) H1
theorem pi_enumU {e : Expr} {ta : TA} {p pos tpos : Pos} {elts : List Expr} {kk : Nat} (hg : Gl X "enumerate") (hm : X.mg "enumerate" = none) (ha : PA X [e] ta) (hs : starEach [e] X.env = [(false, eval e X.env)] := by rfl) :
    PI X (.Tuple elts kk tpos) (.Call (.Name "enumerate" p) [e] [] pos) (iEnumS X.K ta) := by
  refine ⟨fun pins s σ H R I h => ?_⟩
  refine Call_ (ld_blt I hg hm boot_enumerate (PyProof.Rows.callWith_type1 (thn (ha.run pos pins s σ H _ I h) fun us s1 ⟨vs, H1, I1, r1, q1⟩ => ?_) hs rfl))
  obtain ⟨tp, a, xs, ex, hq, q⟩ := q1
  subst ex
  cases r1 with
  | cons r rr =>
    cases rr
    cases r
    obtain ⟨its, rv, p', hal⟩ := inv_src I1 hq
    refine call_enumS p' fun h' he hit hk => wpAny_pyIter_enum he ?_
    have I2 : Inv X pins σ H1 { s1 with heap := h' } := I1.kept (t' := s1.toks) hk
    refine ⟨s1.heap.objs.size + 1, [s1.heap.objs.size + 1, s1.heap.objs.size], _, _, H1, rfl, I2, turn_enumS a (s1.heap.objs.size + 1) s1.heap.objs.size, ⟨⟨.none, he⟩, hit, Nat.succ_ne_self _, Nat.ne_of_lt hal, Nat.ne_of_lt (Nat.lt_succ_of_lt hal)⟩, fun b hb => ?_, q⟩
    have e' : b = s1.heap.objs.size + 1 ∨ b = s1.heap.objs.size := by simpa using hb
    have hle : s1.heap.objs.size ≤ b := by
      rcases e' with z | z
      · rw [z]; exact Nat.le_add_right _ _
      · rw [z]; exact Nat.le_refl _
    exact I1.fpOk hle (I1.hok.fresh hle)
/-! ### sum of either -/
def rSumS (K : PySem.W.Frag) : List V → Hp → VK → Prop := fun vs H Q => ∃ (a : Addr) (ns : List Int), vs = [V.ref a] ∧ (SqL K H a (ns.map V.int) ∨ (SqT K H a (ns.map V.int) ∧ ∀ j, j ≤ ns.length → InLong (ns.getD j 0) ∧ InLong (ns.take j).sum)) ∧ Q (.int ns.sum) H
theorem preSum_take (ns : List Int) : ∀ j, j ≤ ns.length → preSum (fun i => ns.getD i 0) j = (ns.take j).sum
  | 0, _ => by simp [preSum]
  | j + 1, h => by
    have hj : j < ns.length := h
    show preSum (fun i => ns.getD i 0) j + ns.getD j 0 = _
    rw [preSum_take ns j (Nat.le_of_lt hj), List.take_add_one, List.getElem?_eq_getElem hj, List.sum_append, List.getD_eq_getElem?_getD, List.getElem?_eq_getElem hj]
    simp
theorem cr_sumS (hc : X.calm = true) : CallR X (.builtin "sum") (rSumS X.K) := by
  intro pins s σ H vs us Q I r h
  obtain ⟨a, ns, rfl, hs, q⟩ := h
  rcases hs with hs | ⟨hs, hb⟩
  · exact cr_sum hc pins s σ H _ us Q I r ⟨a, ns, rfl, hs, q⟩
  · obtain ⟨its, rv, p, _⟩ := I.tuple hs
    have p2 : ALZ.Src true s.heap a its.toArray := p
    have hlt := p2.lt
    rw [Vals.ref1 r]
    have p3 : s.heap.IsTuple a its.toArray := p
    have hl : its.length = ns.length := by
      have := rv.length
      rw [List.length_map] at this
      exact this.symm
    refine call_sum_walk (wpAny_pyIter_tuple p3 ?_)
    refine ⟨s.heap.objs.size, [s.heap.objs.size, a], [s.heap.objs.size], its.toArray.size, _, _, fun i => ns.getD i 0, rfl, Walks.tuple (show X.A.in1.handled = none from I.ok.hd hc) _ a (Nat.ne_of_lt hlt) its.toArray, ⟨⟨_, Heap.get?_push_size _ rfl, rfl, rfl⟩, p3.push _⟩, fun b hb => ?_, fun i v hv => ?_, fun j hj => ?_, fun h' tk t' hk => ?_⟩
    · have e' : b = s.heap.objs.size ∨ b = a := by simpa using hb
      show b < (s.heap.push _).objs.size
      rw [Heap.size_push]
      rcases e' with z | z
      · rw [z]; exact Nat.lt_succ_self _
      · rw [z]; exact Nat.lt_succ_of_lt hlt
    · have hv2 : its[i]? = some v := by simpa using hv
      have hi : i < ns.length := by
        have := (List.getElem?_eq_some_iff.mp hv2).1
        omega
      obtain ⟨u, hu, ru⟩ := rv.get (i := i) (x := V.int ns[i]) (by rw [List.getElem?_map, List.getElem?_eq_getElem hi]; rfl)
      rw [hv2] at hu
      cases hu
      obtain ⟨t, e⟩ := ru
      refine ⟨t, ?_⟩
      rw [e]
      simp [List.getD_eq_getElem?_getD, List.getElem?_eq_getElem hi]
    · have hj' : j < ns.length := by simp at hj; omega
      rw [preSum_take ns (j + 1) hj']
      exact ⟨(hb j (Nat.le_of_lt hj')).1, (hb (j + 1) hj').2⟩
    · have e : preSum (fun i => ns.getD i 0) its.toArray.size = ns.sum := by
        rw [List.size_toArray, hl, preSum_take ns _ (Nat.le_refl _), List.take_length]
      rw [e]
      refine ⟨.int _, H, I.kept (t' := tk) fun b o x => hk b o (fun z => ?_) (Heap.get?_push_of_some _ x), ⟨_, rfl⟩, q⟩
      have z' : b = s.heap.objs.size := by simpa using z
      exact absurd (Heap.lt_size x) (by rw [z']; exact Nat.lt_irrefl _)
end
end AL

namespace AL
open PySem PySem.Spec PyProof.Rows L2
/-! ### list(d.keys()) -/
section
variable {X : Cx}
def tListKeys (te : TE) : TE := fun σ H Q => te σ H fun x H1 => ∃ (d : Addr) (kvs : List (Key × V)), x = .ref d ∧ H1 d = some (.dK kvs) ∧ ∀ p, H1 p = none → Q (.ref p) (upd H1 p (.lst (kvs.map fun q => kV q.1)))
theorem pe_listKeys {e : Expr} {te : TE} {p apos cpos pos : Pos} (hc : X.calm = true) (he : PE X e te) (hg : Gl X "list") (hm : X.mg "list" = none) (hv : bootBuiltins "list" = some (.type "list")) (hbase : attributeBase e "keys" X.env (eval e X.env) = eval e X.env := by rfl) (hline : (apos.endLine == cpos.line) = true := by rfl)
    (hs : starEach [.Call (.Attribute e "keys" apos) [] [] cpos] X.env = (false, eval (.Call (.Attribute e "keys" apos) [] [] cpos) X.env) :: starEach [] X.env := by rfl) :
    PE X (.Call (.Name "list" p) [.Call (.Attribute e "keys" apos) [] [] cpos] [] pos) (tListKeys te) := by
  refine ⟨fun pins s σ H Q I hq => ?_⟩
  refine wpAny_Call_Name_kw (ld_blt I hg hm hv ?_)
  refine PyProof.Rows.callWith_type1 ?_ hs rfl
  rw [hs]
  show wpAny _ _ (spliced ((false, eval (.Call (.Attribute e "keys" apos) [] [] cpos) X.env) :: backTo pos (starEach [] X.env))) _ _ s
  refine Calls.spliced_cons ?_
  refine wpAny_Call_method (T := "dict") (id := "dict.keys") hbase rfl hline F.plainAttrs_dict F.slot_dict_keys F.type_dict_keys (thn (he.run pins s σ H _ I hq) fun u s1 ⟨x, H1, I1, rx, d, kvs, ex, hd, q⟩ => ?_)
  subst ex
  obtain rfl : u = Value.ref d := rx
  obtain ⟨hz, hs0, vs, kv, hdo⟩ := I1.hok d _ hd
  obtain ⟨ep, hat⟩ := hdo.dictAt
  have lk : kvs.length = vs.length := Paired.length kv
  have I2 : Inv X pins σ H1 { s1 with heap := s1.heap.push { cls := .type "dict_keys", data := .fields #[.ref d] } } := I1.kept (t' := s1.toks) fun b ob q => Heap.get?_push_of_some _ q
  refine ⟨hdo.typeIs, hdo.mapOf.noDict, ?_⟩
  show wpAny _ _ (callWith cpos (.builtin "dict.keys") [.ref d] [] []) _ X.xe s1
  refine method_meetsIn F.slot_dict_keys F.entry_dict_keys rfl (PySem.evalArgs_none ⟨rfl, hdo.typeIs, F.args_dict_keys_1 _, _, PySem.W.kdl_meets_keys (mixKind X.prog X.w) d hs0, ⟨vs, hdo⟩, ?_⟩)
  refine Calls.spliced_nil ?_
  refine PySem.W.kdl_call (PySem.W.kdl_keys (knd := mixKind X.prog X.w) (kvs := vs) (ep := ep) (d := d) (r := s1.heap.objs.size)) (I1.ok.hd hc) ⟨⟨_, Heap.get?_push_size _ rfl, rfl, rfl⟩, hat.push _⟩ (by omega) fun h' tk acc c hk hS hacc => ?_
  have hv2 : Vals (kvs.map fun q => kV q.1) acc.toList := by
    have len : acc.toList.length = kvs.length := by rw [Array.length_toList, hacc.1, lk]
    have at_ : ∀ (i : Nat) (v : Value), acc.toList[i]? = some v → ∃ k x, vs[i]? = some (k, x) ∧ keyIs k v = true := fun i v e => hacc.2 i v (by rw [← Array.getElem?_toList]; exact e)
    revert len at_ kv
    generalize acc.toList = us
    intro kv len at_
    clear lk hd hz hS hacc hat hdo q
    induction kv generalizing us with
    | nil =>
      have e : us = [] := List.length_eq_zero_iff.mp len
      subst e
      exact .nil
    | cons h t ih =>
      cases us with
      | nil => cases len
      | cons u us =>
        obtain ⟨k, x, e1, e2⟩ := at_ 0 u rfl
        cases e1
        refine .cons ?_ (ih us (Nat.succ.inj len) fun i v e => at_ (i + 1) v e)
        have e3 : _ = k := h.1
        have e4 := relV_key e2
        rw [← e3] at e4
        exact e4
  have J : Inv X pins σ (upd H1 _ (.lst (kvs.map fun q => kV q.1))) { s1 with heap := h', toks := tk } :=
    I2.laid (t' := tk) hk (Nat.le_refl _) ⟨by rw [List.length_map]; exact hz, acc.toList, c, hv2, by rw [Array.toArray_toList]; exact hS⟩
  exact ⟨.ref _, _, J, rfl, q _ (I2.hok.fresh (Nat.le_refl _))⟩
/-! ### dict of pairs -/
def rDictP (K : PySem.W.Frag) : List V → Hp → VK → Prop := fun xs H Q => ∃ (a : Addr) (ps : List Addr) (kvs : List (Key × V)), xs = [.ref a] ∧ SqL K H a (ps.map V.ref) ∧ Paired (fun p kv => SqT K H p [kV kv.1, kv.2]) ps kvs ∧
    ∀ p, H p = none → Q (.ref p) (upd H p (.dK (mergeK [] kvs)))
theorem cl_dictP (hc : X.calm = true) : CallR X (.type "dict") (rDictP X.K) := call_dictP hc
theorem merge_keys (v : V) : ∀ (ns : List Int) (acc : List (Key × V)) (ms : List Int), acc.map (·.1) = ms.map Sum.inl → ms.Nodup →
    ∃ ms' : List Int, (mergeK acc (ns.map fun n => (Sum.inl n, v))).map (·.1) = ms'.map Sum.inl ∧ ms'.Nodup ∧ ∀ k, k ∈ ms' ↔ k ∈ ms ∨ k ∈ ns
  | [], acc, ms, h, nd => ⟨ms, h, nd, fun k => by simp⟩
  | n :: ns, acc, ms, h, nd => by
    have hmem : (acc.any fun kv => decide (kv.1 = Sum.inl n)) = true ↔ n ∈ ms := by
      rw [List.any_eq_true]
      constructor
      · rintro ⟨kv, h1, h2⟩
        have e := of_decide_eq_true h2
        have hm : kv.1 ∈ acc.map (·.1) := List.mem_map.mpr ⟨kv, h1, rfl⟩
        rw [h, e] at hm
        obtain ⟨m, g1, g2⟩ := List.mem_map.mp hm
        cases g2
        exact g1
      · intro hm
        have hm2 : (Sum.inl n : Key) ∈ acc.map (·.1) := by rw [h]; exact List.mem_map.mpr ⟨n, hm, rfl⟩
        obtain ⟨kv, g1, g2⟩ := List.mem_map.mp hm2
        exact ⟨kv, g1, decide_eq_true g2⟩
    show ∃ ms' : List Int, (mergeK (putK acc (Sum.inl n) v) (ns.map fun n => (Sum.inl n, v))).map (·.1) = ms'.map Sum.inl ∧ _
    by_cases hin : n ∈ ms
    · have e : (putK acc (Sum.inl n) v).map (·.1) = ms.map Sum.inl := by
        unfold putK
        rw [if_pos (hmem.mpr hin), List.map_map, ← h]
        refine List.map_congr_left fun kv _ => ?_
        show (if kv.1 = Sum.inl n then (kv.1, v) else kv).1 = kv.1
        split <;> rfl
      obtain ⟨ms', a, b, c⟩ := merge_keys v ns _ ms e nd
      refine ⟨ms', a, b, fun k => ?_⟩
      rw [c k, List.mem_cons]
      constructor
      · rintro (z | z)
        · exact .inl z
        · exact .inr (.inr z)
      · rintro (z | z | z)
        · exact .inl z
        · exact .inl (by rw [z]; exact hin)
        · exact .inr z
    · have e : (putK acc (Sum.inl n) v).map (·.1) = (ms ++ [n]).map Sum.inl := by
        unfold putK
        rw [if_neg (fun z => hin (hmem.mp z)), List.map_append, List.map_append, h]
        rfl
      have nd2 : (ms ++ [n]).Nodup := by
        rw [List.nodup_append]
        exact ⟨nd, List.nodup_cons.mpr ⟨List.not_mem_nil, List.nodup_nil⟩, fun a ha b hb => by
          rw [List.mem_singleton.mp hb]
          intro z
          rw [z] at ha
          exact hin ha⟩
      obtain ⟨ms', a, b, c⟩ := merge_keys v ns _ (ms ++ [n]) e nd2
      refine ⟨ms', a, b, fun k => ?_⟩
      rw [c k, List.mem_append, List.mem_singleton, List.mem_cons]
      constructor
      · rintro ((z | z) | z)
        · exact .inl z
        · exact .inr (.inl z)
        · exact .inr (.inr z)
      · rintro (z | z | z)
        · exact .inl (.inl z)
        · exact .inl (.inr z)
        · exact .inr z
end
section
variable {K : PySem.W.Frag} {O : Own} {ρ : List Sl} {P : PS1}
/-- list(dict([(n, True), ..]).keys()) -/
theorem ev_dictKeys {t : TA} (h : EvA K t O ρ fun ss O1 => ∃ (ns : List Int) (b : Bool), ss = [.d (.list (ns.map fun n => PyData.tuple [.int n, .bool b]))] ∧ ∀ ns' : List Int, ns'.Nodup → (∀ k, k ∈ ns' ↔ k ∈ ns) → P (.d (.list (dI ns'))) O1) : Ev K (tListKeys (tCB (rDictP K) t)) O ρ P :=
  fun F H σ Q sm rr w k => h F H σ _ sm rr w fun xs F1 H1 ss O1 st1 v1 ⟨ns, b, es, hp⟩ => by
    subst es
    cases v1 with
    | cons v1 r =>
      cases r
      have v1' : Dp K F1 _ (.list (ns.map fun n => PyData.tuple [.int n, .bool b])) := v1
      cases v1' with
      | @lst a us _ hs ha =>
        have key : ∀ (ns : List Int) (us : List V), DpAll K F1 us (ns.map fun n => PyData.tuple [.int n, .bool b]) → ∃ ps : List Addr, us = ps.map V.ref ∧ Paired (fun p (kv : Key × V) => SqT K H1 p [kV kv.1, kv.2]) ps (ns.map fun n => ((Sum.inl n : Key), V.bl b)) := by
          intro ns
          induction ns with
          | nil => intro us h; cases h; exact ⟨[], rfl, .nil⟩
          | cons n ns ih =>
            intro us h
            cases h with
            | cons h1 h2 =>
              cases h1 with
              | @tup q xs _ hq hx =>
                obtain ⟨ps, e1, e2⟩ := ih _ h2
                have hx2 : xs = [V.int n, V.bl b] := by
                  cases hx with
                  | cons g1 g2 =>
                    cases g1
                    cases g2 with
                    | cons g3 g4 =>
                      cases g3
                      cases g4
                      rfl
                subst hx2
                exact ⟨q :: ps, by rw [e1]; rfl, .cons (Same.tupS st1.fh hq) e2⟩
        obtain ⟨ps, e1, e2⟩ := key ns us ha
        subst e1
        refine ⟨a, ps, _, rfl, st1.fh.seq hs, e2, fun d hd => ?_⟩
        obtain ⟨ms, m1, m2, m3⟩ := merge_keys (.bl b) ns [] [] rfl List.nodup_nil
        refine ⟨d, _, rfl, upd_same, fun p hp2 => ?_⟩
        have st2 := Step.new (o := .dK (mergeK [] (ns.map fun n => ((Sum.inl n : Key), V.bl b)))) st1.fh st1.own hd
        have st3 := Step.new (o := .lst ((mergeK [] (ns.map fun n => ((Sum.inl n : Key), V.bl b))).map fun q => kV q.1)) st2.fh st2.own hp2
        have ev : ((mergeK [] (ns.map fun n => ((Sum.inl n : Key), V.bl b))).map fun q => kV q.1) = ms.map V.int := by
          have := congrArg (List.map kV) m1
          rw [List.map_map, List.map_map] at this
          exact this
        refine k _ _ _ (.d (.list (dI ms))) O1 ((st1.trans st2).trans st3) (Dp.lst (.inl (.inl upd_same)) ?_) (hp ms m2 fun k => by rw [m3 k]; simp)
        rw [ev]
        exact ints_dp ms
end
/-! ### n ** m -/
theorem op_powG {X : Cx} : OpR X (binaryOp .Pow) (rI (fun i j => 0 ≤ j ∧ (Builtin.Int.intBits i : Int) * j ≤ 2 ^ 27) fun i j => .int (i ^ j.toNat)) := opI fun _ _ _ _ _ _ _ hc q => pow_int hc.1 hc.2 q
section
variable {K : PySem.W.Frag} {O : Own} {ρ : List Sl} {P : PS1}
theorem ev_pow {ta tb : TE} (h : Ev K ta O ρ fun a O1 => ∃ i, a = .d (.int i) ∧ Ev K tb O1 ρ fun b O2 => ∃ j, b = .d (.int j) ∧ (0 ≤ j ∧ (Builtin.Int.intBits i : Int) * j ≤ 2 ^ 27) ∧ P (.d (.int (i ^ j.toNat))) O2) : Ev K (tOp (rI (fun i j => 0 ≤ j ∧ (Builtin.Int.intBits i : Int) * j ≤ 2 ^ 27) fun i j => .int (i ^ j.toNat)) ta tb) O ρ P := ev_i (fun _ _ _ => .int _) h
/-! ### a slice of a list or a tuple -/
theorem ev_sl {te : TE} {tl th : TO} (h : Ev K te O ρ fun a O1 => EvO K tl O1 ρ fun lo O2 => EvO K th O2 ρ fun hi O3 => ∃ ds, (a = .d (.list ds) ∧ P (.d (.list (cutD ds lo hi))) O3) ∨ (a = .d (.tuple ds) ∧ P (.d (.tuple (cutD ds lo hi))) O3)) :
    Ev K (tSl (fun x lo hi H Q => rSlL K x lo hi H Q ∨ rSlA K x lo hi H Q) te tl th) O ρ P :=
  fun F H σ Q sm rr w k => h F H σ _ sm rr w fun x F1 H1 a O1 st1 v1 h1 => h1 F1 H1 σ _ st1.fh (rr.mono st1.ff) st1.own fun lo F2 H2 O2 st2 h2 => h2 F2 H2 σ _ st2.fh (rr.mono (st1.ff.trans st2.ff)) st2.own fun hi F3 H3 O3 st3 ⟨ds, hp⟩ => by
    rcases hp with ⟨ea, p⟩ | ⟨ea, p⟩
    · subst ea
      have v1' : Dp K F3 x (.list ds) := v1.mono (st2.ff.trans st3.ff)
      cases v1' with
      | @lst q xs _ hs ha =>
        refine .inl ⟨q, xs, rfl, st3.fh.seq hs, fun r hr => ?_⟩
        have st4 := Step.new (o := .lst (cutV xs lo hi)) st3.fh st3.own hr
        exact k _ _ _ (.d (.list (cutD ds lo hi))) O3 (((st1.trans st2).trans st3).trans st4) (Dp.lst (.inl (.inl upd_same)) (dpMonoAll st4.ff _ _ (cut_dp ha lo hi))) p
    · subst ea
      have v1' : Dp K F3 x (.tuple ds) := v1.mono (st2.ff.trans st3.ff)
      cases v1' with
      | @tup q xs _ hs ha =>
        refine .inr ⟨q, xs, rfl, Same.tupS st3.fh hs, fun hw => ?_, fun _ r hr => ?_⟩
        · have e : cutD ds lo hi = ds := by
            unfold cutD
            rw [← dpAll_len ha, hw.1, hw.2, List.drop_zero, Nat.sub_zero, dpAll_len ha, List.take_length]
          rw [e] at p
          exact k _ F3 H3 (.d (.tuple ds)) O3 ((st1.trans st2).trans st3) (Dp.tup hs ha) p
        · have st4 := Step.new (o := .tup (cutV xs lo hi)) st3.fh st3.own hr
          exact k _ _ _ (.d (.tuple (cutD ds lo hi))) O3 (((st1.trans st2).trans st3).trans st4) (Dp.tup (.inl (.inl upd_same)) (dpMonoAll st4.ff _ _ (cut_dp ha lo hi))) p
/-! ### walks -/
theorem ei_seq {te : TE} {P : List PyData → Own → Prop} (h : Ev K te O ρ fun s O' => ∃ ds, (s = .d (.list ds) ∨ s = .d (.tuple ds)) ∧ P ds O') : EvI K (iSeq K te) O ρ P :=
  fun F H σ R sm rr w k => h F H σ _ sm rr w fun v F' H' s O' st vo ⟨ds, es, p⟩ => by
    rcases es with es | es
    · subst es
      have vo' : Dp K F' v (.list ds) := vo
      cases vo' with
      | @lst a xs _ hs ha =>
        refine ⟨a, rfl, .inl ⟨⟨xs, st.fh.seq hs⟩, k _ F' H' ds O' st (fun F2 H2 s2 s3 => ?_) p⟩⟩
        have hl := dpAll_len ha
        have hq : SqL K H2 a xs := (s2.trans s3).seq hs
        refine ⟨fun i hi => ⟨xs, xs[i]'(by omega), hq, List.getElem?_eq_getElem (by omega)⟩, ⟨xs, hq, by omega⟩, fun i x H3 hi y => ?_⟩
        obtain ⟨rfl, y⟩ := y
        have hx := y xs hq
        have hd : ds[i]? = some ds[i] := List.getElem?_eq_getElem hi
        obtain ⟨v, e1, e2⟩ := dpAll_get ha hd
        rw [hx] at e1
        cases e1
        exact ⟨_, F2, hd, Same.refl _, s3, fun b o e => ⟨e, rfl⟩, dpMono s2 _ _ e2⟩
    · subst es
      have vo' : Dp K F' v (.tuple ds) := vo
      cases vo' with
      | @tup a xs _ hs ha =>
        refine ⟨a, rfl, .inr ⟨⟨xs, Same.tupS st.fh hs⟩, k _ F' H' ds O' st (fun F2 H2 s2 s3 => ?_) p⟩⟩
        have hl := dpAll_len ha
        have hq : SqT K H2 a xs := Same.tupS (s2.trans s3) hs
        refine ⟨fun i hi => ⟨xs, xs[i]'(by omega), hq, List.getElem?_eq_getElem (by omega)⟩, ⟨xs, hq, by omega⟩, fun i x H3 hi y => ?_⟩
        obtain ⟨rfl, y⟩ := y
        have hx := y xs hq
        have hd : ds[i]? = some ds[i] := List.getElem?_eq_getElem hi
        obtain ⟨v, e1, e2⟩ := dpAll_get ha hd
        rw [hx] at e1
        cases e1
        exact ⟨_, F2, hd, Same.refl _, s3, fun b o e => ⟨e, rfl⟩, dpMono s2 _ _ e2⟩
/-- a list or a tuple, as data -/
abbrev SeqP (s : Sl) (ds : List PyData) : Prop := s = .d (.list ds) ∨ s = .d (.tuple ds)
theorem seqP_get {F H : Hp} {s : Sl} {ds : List PyData} {v : V} (h : SeqP s ds) (vo : VOk K F v s) (sm : Same F H) : ∃ tp a xs, v = .ref a ∧ (∀ H2, Same F H2 → SqX tp K H2 a xs) ∧ DpAll K F xs ds := by
  rcases h with e | e
  · subst e
    have vo' : Dp K F v (.list ds) := vo
    cases vo' with
    | @lst a xs _ hs ha => exact ⟨false, a, xs, rfl, fun H2 s2 => s2.seq hs, ha⟩
  · subst e
    have vo' : Dp K F v (.tuple ds) := vo
    cases vo' with
    | @tup a xs _ hs ha => exact ⟨true, a, xs, rfl, fun H2 s2 => Same.tupS s2 hs, ha⟩
theorem same_upd {F H : Hp} {T : Addr} {o : HO} (s : Same F H) (h : H T = none) : Same F (upd F T o) ∧ Same (upd F T o) (upd H T o) := by
  refine ⟨same_new (frozen_free s h), fun b x e => ?_⟩
  by_cases e1 : b = T
  · subst e1
    rw [upd_same] at e ⊢
    exact e
  · rw [upd_ne e1] at e ⊢
    exact s b x e
theorem ei_enum {ta : TA} {P : List PyData → Own → Prop} (h : EvA K ta O ρ fun ss O' => ∃ s ds, ss = [s] ∧ SeqP s ds ∧ P (ds.zipIdx.map fun p => PyData.tuple [.int (p.2 : Nat), p.1]) O') : EvI K (iEnumS K ta) O ρ P :=
  fun F H σ R sm rr w k => h F H σ _ sm rr w fun vs F' H' ss O' st vo ⟨s, ds, es, hs, p⟩ => by
    subst es
    cases vo with
    | cons v1 r =>
      cases r
      obtain ⟨tp, a, xs, rfl, hq, ha⟩ := seqP_get hs v1 st.fh
      have hl := dpAll_len ha
      refine ⟨tp, a, xs, rfl, hq _ st.fh, k _ F' H' _ O' st (fun F2 H2 s2 s3 => ?_) p⟩
      have hlen : (ds.zipIdx.map fun p => PyData.tuple [.int (p.2 : Nat), p.1]).length = ds.length := by rw [List.length_map, List.length_zipIdx]
      rw [hlen]
      have hq2 := hq H2 (s2.trans s3)
      refine ⟨fun i hi => ⟨xs, xs[i]'(by omega), hq2, List.getElem?_eq_getElem (by omega)⟩, ⟨xs, hq2, hl⟩, fun i x H3 hi y => ?_⟩
      obtain ⟨T, v, rfl, hT, rfl, y⟩ := y
      have hx := y xs hq2
      have hd : ds[i]? = some ds[i] := List.getElem?_eq_getElem hi
      obtain ⟨v', e1, e2⟩ := dpAll_get ha hd
      rw [hx] at e1
      cases e1
      obtain ⟨u1, u2⟩ := same_upd (o := .tup [.int (i : Nat), v]) s3 hT
      refine ⟨.tuple [.int (i : Nat), ds[i]], _, ?_, u1, u2, fun b o e => ?_, ?_⟩
      · rw [List.getElem?_map, List.getElem?_zipIdx, hd]
        simp
      · have hne : b ≠ T := ne_of_none e hT
        exact ⟨by rw [upd_ne hne]; exact e, upd_ne hne⟩
      · exact Dp.tup (.inl (.inl upd_same)) (.cons (.int _) (.cons (dpMono (s2.trans u1) _ _ e2) .nil))
theorem ei_zip {ta : TA} {P : List PyData → Own → Prop} (h : EvA K ta O ρ fun ss O' => ∃ s1 s2 ds es, ss = [s1, s2] ∧ SeqP s1 ds ∧ SeqP s2 es ∧ P ((ds.zip es).map fun p => PyData.tuple [p.1, p.2]) O') : EvI K (iZipS K ta) O ρ P :=
  fun F H σ R sm rr w k => h F H σ _ sm rr w fun vs F' H' ss O' st vo ⟨sa, sb, ds, es, ess, hs1, hs2, p⟩ => by
    subst ess
    cases vo with
    | cons v1 r =>
      cases r with
      | cons v2 r =>
        cases r
        obtain ⟨t1, a, xs, rfl, hq1, ha⟩ := seqP_get hs1 v1 st.fh
        obtain ⟨t2, b, ys, rfl, hq2, hb⟩ := seqP_get hs2 v2 st.fh
        have l1 := dpAll_len ha
        have l2 := dpAll_len hb
        refine ⟨t1, t2, a, b, xs, ys, rfl, hq1 _ st.fh, hq2 _ st.fh, k _ F' H' _ O' st (fun F2 H2 s2 s3 => ?_) p⟩
        have hlen : ((ds.zip es).map fun p => PyData.tuple [p.1, p.2]).length = min ds.length es.length := by rw [List.length_map, List.length_zip]
        rw [hlen]
        have q1 := hq1 H2 (s2.trans s3)
        have q2 := hq2 H2 (s2.trans s3)
        refine ⟨fun i hi => ⟨xs, ys, xs[i]'(by omega), ys[i]'(by omega), q1, q2, List.getElem?_eq_getElem (by omega), List.getElem?_eq_getElem (by omega)⟩, ⟨xs, ys, q1, q2, by omega⟩, fun i x H3 hi y => ?_⟩
        obtain ⟨T, u, v, rfl, hT, rfl, y1, y2⟩ := y
        have hx := y1 xs q1
        have hy := y2 ys q2
        have hi1 : i < ds.length := by omega
        have hi2 : i < es.length := by omega
        have hd : ds[i]? = some ds[i] := List.getElem?_eq_getElem hi1
        have he : es[i]? = some es[i] := List.getElem?_eq_getElem hi2
        obtain ⟨u', e1, e2⟩ := dpAll_get ha hd
        obtain ⟨v', e3, e4⟩ := dpAll_get hb he
        rw [hx] at e1
        cases e1
        rw [hy] at e3
        cases e3
        obtain ⟨w1, w2⟩ := same_upd (o := .tup [u, v]) s3 hT
        refine ⟨.tuple [ds[i], es[i]], _, ?_, w1, w2, fun b o e => ?_, ?_⟩
        · rw [List.getElem?_map, List.getElem?_eq_getElem (by rw [List.length_zip]; omega), List.getElem_zip]
          rfl
        · have hne : b ≠ T := ne_of_none e hT
          exact ⟨by rw [upd_ne hne]; exact e, upd_ne hne⟩
        · exact Dp.tup (.inl (.inl upd_same)) (.cons (dpMono (s2.trans w1) _ _ e2) (.cons (dpMono (s2.trans w1) _ _ e4) .nil))
end
/-! ### sum -/
section
variable {X : Cx}
abbrev sSum : DS := fun ss O P => ∃ a ns, ss = [a] ∧ (LstD O a (dI ns) ∨ (a = .d (.tuple (dI ns)) ∧ ∀ j, j ≤ ns.length → InLong (ns.getD j 0) ∧ InLong (ns.take j).sum)) ∧ P (.d (.int ns.sum)) O
theorem cl_sum (hc : X.calm = true) : CallR X (.builtin "sum") (rOf X.K sSum) := cr_of (cr_sumS hc) fun ss O P ⟨a, ns, es, hs, p⟩ F H vs Q sm w vo k => by
  subst es
  cases vo with
  | cons v1 r =>
    cases r
    rcases hs with hs | ⟨ea, hb⟩
    · obtain ⟨q, xs, rfl, hq, ha⟩ := lst_get hs v1 sm w
      have e := dp_ints ha
      subst e
      exact ⟨q, ns, rfl, .inl hq, k _ F H (.d (.int _)) O (Step.refl sm w) (Dp.int _) p⟩
    · subst ea
      have v1' : Dp X.K F _ (.tuple (dI ns)) := v1
      cases v1' with
      | @tup q xs _ hs ha =>
        have e := dp_ints ha
        subst e
        exact ⟨q, ns, rfl, .inr ⟨Same.tupS sm hs, hb⟩, k _ F H (.d (.int _)) O (Step.refl sm w) (Dp.int _) p⟩
end
end AL

namespace AL
open PySem PySem.Spec PyProof.Rows L2 HT
/-! ### sorted(tuple, reverse=b) -/
section
variable {prog : Program} {w : World} {A : Around} {E : Value → Shared → Prop} {s : Shared}
theorem collect_tup {l : Addr} {vs : List Value} {Q : List Value → Shared → Prop} (hl : s.heap.IsTuple l vs.toArray)
    (h : Q vs { s with heap := (s.heap.push (seqObj "list" #[] 0)).update s.heap.objs.size (Obj.mapSeq (· ++ vs.toArray)) }) (hsz : vs.length ≤ sizeLine) :
    wpAny (model prog w) A (collect (.ref l)) Q E s := by
  obtain ⟨o, ho, hc, n, hd⟩ := id hl
  unfold collect
  refine wpAny_bind (wpAny_runValue (codeAny_builtin entry_proto_collect' ?_))
  show wpAny _ _ (do again (.builtin "list.__iadd__" ⟨[← newList [], .ref l], []⟩)) _ _ s
  refine wpAny_bind (wpAny_newList (wpAny_pure ⟨Code.quiet_builtin _ (by decide +kernel), codeAny_builtin entry_list_iadd' ?_⟩))
  show wpAny _ _ (Builtin.List.listExtendWith (.ref s.heap.objs.size) (.ref l) (.ref s.heap.objs.size)) _ _ { s with heap := s.heap.push (seqObj "list" #[] 0) }
  unfold Builtin.List.listExtendWith
  have ho' : (s.heap.push (seqObj "list" #[] 0)).get? l = some o := Heap.get?_push_of_some _ ho
  refine wpAny_bind (wpAny_typeOf (T := "tuple") ⟨o, ho', hc⟩ ?_)
  have ht : (Value.type "tuple" == Value.type "tuple") = true := by rfl
  rw [if_pos (by rw [ht]; simp)]
  refine wpAny_bind (listItems_at ho' hd ?_)
  refine wpAny_bind (listItems_at (xs := #[]) (n := 0) (Heap.get?_push_size _ rfl) rfl ?_)
  rw [if_neg (by simp)]
  refine wpAny_bind (listUpdate_at (xs := #[]) (n := 0) (Heap.get?_push_size _ rfl) rfl ?_ (Nat.zero_le _) (by show (#[] ++ vs.toArray).size ≤ sizeLine + 1; simp only [Array.size_append, List.size_toArray, List.length_nil]; omega))
  refine wpAny_pure ?_
  show wpAny (model prog w) A (do
      let o ← load s.heap.objs.size
      match o.data with
      | .seq xs _ => pure xs.toList
      | _ => unsupported "internal:collect") Q E { s with heap := (s.heap.push (seqObj "list" #[] 0)).update s.heap.objs.size (Obj.mapSeq (· ++ vs.toArray)) }
  refine wpAny_bind (wpAny_load (get?_update_seq (Heap.get?_push_size _ rfl) _) ?_)
  show wpAny _ _ (pure ((#[] : Array Value) ++ vs.toArray).toList) Q E _
  rw [show ((#[] : Array Value) ++ vs.toArray).toList = vs by simp]
  exact wpAny_pure h
open SrtR SrtO in
theorem sorted_tupK {l : Addr} {vs : List Value} {b : Bool} {ltv : Value → Value → Bool} {Q : Value → Shared → Prop} (O : Swo ltv) (hl : s.heap.IsTuple l vs.toArray) (hz : vs.length ≤ sizeLine)
    (hS : 2 ≤ vs.length → ∀ (h₁ : Heap) (a : Addr), h₁.get? a = some (seqObj "list" vs.toArray 0) → (∀ b o, s.heap.get? b = some o → b ≠ a ∧ h₁.get? b = some o) → SortableO prog w A.in1.in1 { s with heap := h₁ } a vs ltv)
    (h : ∀ out : List Value, Srtd ltv out → Stb ltv out (if b = true then vs.reverse else vs) → Q (.ref (s.heap.objs.size + 1)) { s with heap := sortedAll s.heap vs (if b = true then out.toArray.reverse else out.toArray) }) :
    wpAny (model prog w) A (call (.builtin "sorted") [.ref l] [(Str.ofString "reverse", .bool b)]) Q E s := by
  refine call_function_entry_kw kind_sorted plain_sorted entry_sorted (PyProof.Rows.args_sorted_rev _ _) ?_
  unfold Builtin.«sorted»
  refine wpAny_bind (m := checkCount "sorted" 1 1 _) (wpAny_pure ?_)
  refine wpAny_bind (collect_tup hl ?_ hz)
  refine wpAny_bind (wpAny_newList ?_ hz)
  have hsz : ((s.heap.push (seqObj "list" #[] 0)).update s.heap.objs.size (Obj.mapSeq (· ++ vs.toArray))).objs.size = s.heap.objs.size + 1 := by
    rw [Heap.size_update, size_push']
  have hoL : (((s.heap.push (seqObj "list" #[] 0)).update s.heap.objs.size (Obj.mapSeq (· ++ vs.toArray))).push (seqObj "list" vs.toArray 0)).get? (s.heap.objs.size + 1) = some (seqObj "list" vs.toArray 0) := by
    rw [← hsz]; exact Heap.get?_push_size _ rfl
  have keep : ∀ b o, s.heap.get? b = some o → b ≠ s.heap.objs.size + 1 ∧ (((s.heap.push (seqObj "list" #[] 0)).update s.heap.objs.size (Obj.mapSeq (· ++ vs.toArray))).push (seqObj "list" vs.toArray 0)).get? b = some o := fun b o q => by
    have hlt : b < s.heap.objs.size := Heap.lt_size q
    refine ⟨Nat.ne_of_lt (Nat.lt_succ_of_lt hlt), Heap.get?_push_of_some _ ?_⟩
    rw [Heap.get?_update_ne _ _ _ _ (Nat.ne_of_lt hlt)]
    exact Heap.get?_push_of_some _ q
  show wpAny _ _ _ _ _ { s with heap := ((s.heap.push (seqObj "list" #[] 0)).update s.heap.objs.size (Obj.mapSeq (· ++ vs.toArray))).push (seqObj "list" vs.toArray 0) }
  rw [hsz]
  refine wpAny_bind (wpAny_holding (wpAny_call_entry_kw slot_list_sort ⟨_, hoL, rfl⟩ entry_list_sort ?_ (PyProof.Rows.args_list_sort_rev _ _)))
  refine list_sort_ordR O hoL hz (fun h2 => hS h2 _ _ hoL keep) fun out hs hb => ⟨_, rfl, ?_⟩
  exact wpAny_pure ⟨_, rfl, h out hs hb⟩
end
section
variable {X : Cx}
/-- sorted(ints, reverse=b), a list or a tuple -/
def rSortedRv (K : PySem.W.Frag) (b : Bool) : List V → List V → Hp → VK → Prop := fun vs zs H Q => ∃ (tp : Bool) (a : Addr) (ns : List Int), vs = [V.ref a] ∧ zs = [.bl b] ∧ SqX tp K H a (ns.map V.int) ∧
  ∀ (ns' : List Int) (p : Addr), ns'.Perm ns → OrdB b ns' → H p = none → Q (.ref p) (upd H p (.lst (ns'.map V.int)))
theorem cr_sortedRv {b : Bool} : CallRK X (.builtin "sorted") [Str.ofString "reverse"] (rSortedRv X.K b) := by
  intro pins s σ H vs zs us ws Q I r rz h
  obtain ⟨tp, a, ns, e1, e2, hs, q⟩ := h
  cases tp with
  | false => exact cr_sortedRev pins s σ H vs zs us ws Q I r rz ⟨a, ns, e1, e2, hs, q⟩
  | true =>
    subst e1
    subst e2
    obtain rfl := Vals.ref1 r
    obtain ⟨w1, rfl, ew⟩ := vals1 rz
    obtain rfl : w1 = Value.bool b := ew
    obtain ⟨its, rv, hl, hz⟩ := I.tuple hs
    have hi := rv.ints
    have hzl : its.length ≤ sizeLine := by rw [← rv.length]; exact hz
    have hl2 : s.heap.IsTuple a its.toArray := hl
    show wpAny _ _ (call (.builtin "sorted") [.ref a] [(Str.ofString "reverse", .bool b)]) _ _ s
    refine sorted_tupK SrtO.swo_int hl2 hzl (fun h2 h₁ a' _ _ => SrtO.ints_sortable hi h2) fun out h1 h2 => ?_
    obtain ⟨ns', k1, k2, k3⟩ := SrtR.ints_outR hi h1 h2
    obtain ⟨ep, he'⟩ := PyProof.Rows.sortedAll_at s.heap its (if b = true then out.toArray.reverse else out.toArray)
    have hlen : (ns'.map V.int).length ≤ sizeLine := by
      rw [List.length_map, k2.length_eq]
      rw [List.length_map] at hz
      exact hz
    have e0 : ((if b = true then out.toArray.reverse else out.toArray).toList).toArray = (if b = true then out.toArray.reverse else out.toArray) := by rw [Array.toArray_toList]
    exact ⟨.ref _, upd H (s.heap.objs.size + 1) (.lst (ns'.map V.int)), I.laid (t' := s.toks) (fun _ _ => PyProof.Rows.sortedAll_old) (Nat.le_succ _) ⟨hlen, _, ep, vals_of_ints k1, by rw [e0]; exact he'⟩, rfl, q _ _ k2 k3 (I.hok.fresh (Nat.le_succ _))⟩
end
section
variable {K : PySem.W.Frag} {O : Own} {ρ : List Sl} {P : PS1}
theorem ev_sortedRv {t tk : TA} {b : Bool} (h : EvA K t O ρ fun ss O1 => ∃ s ns, ss = [s] ∧ SeqP s (dI ns) ∧ EvA K tk O1 ρ fun zs O2 => zs = [.d (.bool b)] ∧ ∀ ns' : List Int, ns'.Perm ns → OrdB b ns' → P (.d (.list (dI ns'))) O2) : Ev K (tCKw (rSortedRv K b) t tk) O ρ P :=
  fun F H σ Q sm rr w k => h F H σ _ sm rr w fun xs F1 H1 ss O1 st1 v1 ⟨sl, ns, es, hs, h1⟩ => h1 F1 H1 σ _ st1.fh (rr.mono st1.ff) st1.own fun zs F2 H2 ss2 O2 st2 v2 ⟨es2, hp⟩ => by
    subst es
    subst es2
    cases v1 with
    | cons v1 r =>
      cases r
      cases v2 with
      | cons v2 r =>
        cases r
        have v2' : Dp K F2 _ (.bool b) := v2
        cases v2'
        obtain ⟨tp, a, xs, rfl, hq, ha⟩ := seqP_get hs v1 st1.fh
        have e := dp_ints ha
        subst e
        refine ⟨tp, a, ns, rfl, rfl, hq _ (st2.ff.trans st2.fh), fun ns' r h1 h2 hr => ?_⟩
        have st3 := Step.new (o := .lst (ns'.map V.int)) st2.fh st2.own hr
        exact k _ _ _ (.d (.list (dI ns'))) O2 ((st1.trans st2).trans st3) (Dp.lst (.inl (.inl upd_same)) (ints_dp ns')) (hp ns' h1 h2)
end
/-! ### t[::2] -/
def stepV {α : Type} (xs : List α) : List α := (List.range ((xs.length + 1) / 2)).filterMap fun m => xs[2 * m]?
section
variable {prog : Program} {w : World} {A : Around} {E : Value → Shared → Prop} {s : Shared}
theorem applied2 {sl : Addr} {n : Nat} {tk : Tok} {Q : Int × Int × Nat → Shared → Prop} (hs : s.heap.IsSliceOf sl .none .none (.int 2 tk)) (h : Q (0, 2, (n + 1) / 2) s) : wpAny (model prog w) A (Builtin.Slice.sliceApplied (.ref sl) (pure (n : Int))) Q E s := by
  obtain ⟨os, hos, hcs, hds⟩ := id hs
  unfold Builtin.Slice.sliceApplied Builtin.Slice.sliceFields
  refine wpAny_bind (wpAny_bind (wpAny_field hos hds (x := .none) rfl (wpAny_bind (wpAny_field hos hds (x := .none) rfl (wpAny_bind (wpAny_field hos hds (x := .int 2 tk) rfl (wpAny_pure ?_)))))))
  refine wpAny_bind (slicePart_int ?_)
  show wpAny _ _ (if ((2 : Int) == 0) = true then _ else _) _ _ s
  rw [if_neg (by decide)]
  refine wpAny_bind (slicePart_none (wpAny_bind (slicePart_none (wpAny_bind (wpAny_pure ?_)))))
  show wpAny _ _ (match Builtin.Slice.sliceAdjust none none 2 (n : Int) with | (lo, hi) => pure (lo, (2 : Int), Builtin.Slice.slicePlaces lo hi 2)) _ _ s
  have e1 : Builtin.Slice.sliceAdjust none none 2 (n : Int) = (0, (n : Int)) := by
    unfold Builtin.Slice.sliceAdjust
    rfl
  have e2 : Builtin.Slice.slicePlaces 0 (n : Int) 2 = (n + 1) / 2 := by
    unfold Builtin.Slice.slicePlaces
    have h1 : (2 : Int) > 0 := by omega
    simp only [h1, if_true]
    split <;> omega
  rw [e1]
  show wpAny _ _ (pure ((0 : Int), (2 : Int), Builtin.Slice.slicePlaces 0 (n : Int) 2)) _ _ s
  rw [e2]
  exact wpAny_pure h
theorem getItem_step2 {t sl : Addr} {items : Array Value} {tk : Tok} {Q : Value → Shared → Prop} (ht : IsTup s.heap t items) (hs : s.heap.IsSliceOf sl .none .none (.int 2 tk))
    (h : Q (.ref s.heap.objs.size) { s with heap := s.heap.push { cls := .type "tuple", data := .seq (stepV items.toList).toArray } }) (hsz : items.size ≤ sizeLine) : wpAny (model prog w) A (getItem (.ref t) (.ref sl)) Q E s := by
  have hcut : sizeOk (.seq (stepV items.toList).toArray) := by
    show (stepV items.toList).toArray.size ≤ sizeLine
    rw [List.size_toArray]
    have h1 := List.length_filterMap_le (fun m => items.toList[2 * m]?) (List.range ((items.toList.length + 1) / 2))
    rw [List.length_range, Array.length_toList] at h1
    have h2 : (stepV items.toList).length ≤ (items.size + 1) / 2 := by
      unfold stepV
      rw [Array.length_toList]
      exact h1
    omega
  obtain ⟨os, hos, hcs, hds⟩ := id hs
  have hTs : s.TypeIs (.ref sl) "slice" := ⟨os, hos, hcs⟩
  unfold getItem
  try with_reducible refine wpAny_holding ?_
  first | refine wpAny_bind (wpAny_pure ?_) | skip
  refine wpAny_bind (wpAny_sequenceKey ht.typeIs (by decide) ?_)
  refine wpAny_bind (wpAny_callSpecial?_slot (name := Str.ofString "__getitem__") ht.typeIs PyProof.Rows.slot_tuple_getitem
    (wpAny_call_entry PyProof.Rows.slot_tuple_getitem ht.typeIs entry_tuple_getitem ?_ (args_tuple_getitem _ _)))
  show wpAny _ _ (Builtin.Tuple.tupleItemsOf (.ref t) >>= _) _ _ s
  refine wpAny_bind (tupleItemsOf_ ht ?_)
  refine wpAny_bind (wpAny_typeOf hTs ?_)
  rw [if_pos (by decide)]
  refine wpAny_bind (applied2 hs ?_)
  show wpAny _ _ (if ((0 : Int) == 0 && (2 : Int) == 1 && ((items.size + 1) / 2) == items.size) = true then _ else _) _ _ s
  rw [if_neg (by rw [show ((2 : Int) == 1) = false from rfl]; simp)]
  have e : ((List.range ((items.size + 1) / 2)).filterMap fun (m : Nat) => items[((0 : Int) + (m : Int) * 2).toNat]?).toArray = (stepV items.toList).toArray := by
    unfold stepV
    rw [Array.length_toList]
    have ef : (fun (m : Nat) => items[((0 : Int) + (m : Int) * 2).toNat]?) = fun m => items.toList[2 * m]? := by
      funext m
      rw [Array.getElem?_toList]
      congr 1
      omega
    rw [ef]
  rw [e]
  first
    | exact wpAny_bind (m := Builtin.Tuple.tupleExact _) (wpAny_newObj_type (wpAny_pure ⟨_, rfl, wpAny_pure h⟩) hcut)
    | exact wpAny_bind (m := Builtin.Tuple.tupleExact _) (wpAny_newObj_type (wpAny_bind (wpAny_pure (wpAny_pure ⟨_, rfl, wpAny_pure h⟩))) hcut)
    | exact wpAny_bind (wpAny_bind (m := Builtin.Tuple.tupleExact _) (wpAny_newObj_type (wpAny_pure (wpAny_pure ⟨_, rfl, wpAny_pure h⟩)) hcut))
    | exact wpAny_bind (wpAny_bind (m := Builtin.Tuple.tupleExact _) (wpAny_newObj_type (wpAny_pure ⟨_, rfl, wpAny_pure h⟩) hcut))
end
section
variable {X : Cx}
theorem vals_pick {f : Nat → Nat} : ∀ (js : List Nat) {xs : List V} {us : List Value}, Vals xs us → Vals (js.filterMap fun m => xs[f m]?) (js.filterMap fun m => us[f m]?)
  | [], _, _, _ => .nil
  | j :: js, xs, us, r => by
    rw [List.filterMap_cons, List.filterMap_cons]
    have hl := r.length
    cases e : xs[f j]? with
    | none =>
      have e2 : us[f j]? = none := List.getElem?_eq_none (by have := List.getElem?_eq_none_iff.mp e; omega)
      rw [e2]
      exact vals_pick js r
    | some x =>
      obtain ⟨u, hu, ru⟩ := r.get e
      rw [hu]
      exact .cons ru (vals_pick js r)
def tStep2 (K : PySem.W.Frag) (te ts : TE) : TE := fun σ H Q => te σ H fun x H1 => ts σ H1 fun y H2 => ∃ a xs, x = .ref a ∧ y = .int 2 ∧ SqT K H2 a xs ∧ ∀ p, H2 p = none → Q (.ref p) (upd H2 p (.tup (stepV xs)))
theorem pe_step2 {e st : Expr} {te ts : TE} {p2 pos : Pos} (he : PE X e te) (hst : PE X st ts) : PE X (.Subscript e (.Slice none none (some st) p2) pos) (tStep2 X.K te ts) := by
  refine ⟨fun pins s σ H Q I h => ?_⟩
  refine Subscript_ (thn (he.run pins s σ H _ I h) fun v s1 ⟨x, H1, I1, r1, q1⟩ => ?_)
  refine wpAny_Slice ?_
  rw [evalPart_none, evalPart_some]
  refine wpAny_pure (wpAny_pure ?_)
  refine thn (hst.run pins s1 σ H1 _ I1 q1) fun vk s2 ⟨y, H2, I2, r2, a, xs, ex, ey, hx, q⟩ => ?_
  subst ex
  subst ey
  cases r1
  obtain ⟨tk, rfl⟩ := r2
  have I4 : Inv X pins σ H2 { s2 with heap := s2.heap.push { cls := .type "slice", data := .fields #[.none, .none, .int 2 tk] } } := I2.kept (t' := s2.toks) fun b ob q => Heap.get?_push_of_some _ q
  obtain ⟨its, r, ht, hz⟩ := I4.tuple hx
  have hlen : its.length = xs.length := r.length.symm
  have ht2 : IsTup (s2.heap.push { cls := .type "slice", data := .fields #[.none, .none, .int 2 tk] }) a its.toArray := ht
  show wpAny (model X.prog X.w) X.A (subscriptTail e (.Slice none none (some st) p2) (.ref a) (.ref s2.heap.objs.size)) (EP X pins σ Q) X.xe { s2 with heap := s2.heap.push { cls := .type "slice", data := .fields #[.none, .none, .int 2 tk] } }
  refine tail_any (ops := [.ref a, .ref s2.heap.objs.size]) (s := { s2 with heap := s2.heap.push { cls := .type "slice", data := .fields #[.none, .none, .int 2 tk] } }) ht.typeIs PyProof.Rows.slot_tuple_getitem.lookup
    (getItem_step2 (s := { s2 with heap := s2.heap.push { cls := .type "slice", data := .fields #[.none, .none, .int 2 tk] } }) ht2 (Heap.IsSliceOf.new ..) ?_ (by rw [List.size_toArray, hlen]; exact hz)) (by with_unfolding_all rfl)
  have rv : Vals (stepV xs) (stepV its) := by
    unfold stepV
    rw [hlen]
    exact vals_pick (f := fun m => 2 * m) _ r
  have hsz : (stepV xs).length ≤ sizeLine := by
    have h1 := List.length_filterMap_le (fun m => xs[2 * m]?) (List.range ((xs.length + 1) / 2))
    rw [List.length_range] at h1
    have h2 : (stepV xs).length ≤ (xs.length + 1) / 2 := h1
    omega
  refine ⟨.ref _, _, I4.laid (t' := s2.toks) (fun _ _ e => Heap.get?_push_of_some _ e) (Nat.le_refl _) (o := .tup (stepV xs)) ⟨hsz, stepV its, rv, ⟨_, Heap.get?_push_size _ rfl, rfl, _, rfl⟩⟩, rfl, q _ (I4.hok.fresh (Nat.le_refl _))⟩
end
section
variable {K : PySem.W.Frag} {O : Own} {ρ : List Sl} {P : PS1}
theorem dp_step {F : Hp} {f : Nat → Nat} : ∀ (js : List Nat) {xs : List V} {ds : List PyData}, DpAll K F xs ds → DpAll K F (js.filterMap fun m => xs[f m]?) (js.filterMap fun m => ds[f m]?)
  | [], _, _, _ => .nil
  | j :: js, xs, ds, r => by
    rw [List.filterMap_cons, List.filterMap_cons]
    have hl := dpAll_len r
    cases e : ds[f j]? with
    | none =>
      have e2 : xs[f j]? = none := List.getElem?_eq_none (by have := List.getElem?_eq_none_iff.mp e; omega)
      rw [e2]
      exact dp_step js r
    | some x =>
      obtain ⟨u, hu, ru⟩ := dpAll_get r e
      rw [hu]
      exact .cons ru (dp_step js r)
theorem ev_step2 {te ts : TE} (h : Ev K te O ρ fun a O1 => ∃ ds, a = .d (.tuple ds) ∧ Ev K ts O1 ρ fun b O2 => b = .d (.int 2) ∧ P (.d (.tuple (stepV ds))) O2) : Ev K (tStep2 K te ts) O ρ P :=
  fun F H σ Q sm rr w k => h F H σ _ sm rr w fun x F1 H1 a O1 st1 v1 ⟨ds, ea, h1⟩ => h1 F1 H1 σ _ st1.fh (rr.mono st1.ff) st1.own fun y F2 H2 b O2 st2 v2 ⟨eb, p⟩ => by
    subst ea
    subst eb
    have v1' : Dp K F2 x (.tuple ds) := v1.mono st2.ff
    have v2' : Dp K F2 y (.int 2) := v2
    cases v2'
    cases v1' with
    | @tup q xs _ hs ha =>
      refine ⟨q, xs, rfl, rfl, Same.tupS st2.fh hs, fun r hr => ?_⟩
      have st4 := Step.new (o := .tup (stepV xs)) st2.fh st2.own hr
      have hd : DpAll K F2 (stepV xs) (stepV ds) := by
        unfold stepV
        rw [dpAll_len ha]
        exact dp_step (f := fun m => 2 * m) _ ha
      exact k _ _ _ (.d (.tuple (stepV ds))) O2 ((st1.trans st2).trans st4) (Dp.tup (.inl (.inl upd_same)) (dpMonoAll st4.ff _ _ hd)) p
end
/-! ### sorted(list of pairs of ints) -/
section
variable {X : Cx}
def pD (p : Int × Int) : PyData := .tuple [.int p.1, .int p.2]
def rSortedPQ (K : PySem.W.Frag) : List V → Hp → VK → Prop := fun vs H Q => ∃ (a : Addr) (xs : List V) (k : V → Int × Int), vs = [V.ref a] ∧ SqL K H a xs ∧ (∀ x ∈ xs, ∃ t, x = V.ref t ∧ SqT K H t [.int (k x).1, .int (k x).2]) ∧
  ∀ ys p, SrtO.Srtd (ltP k) ys → ys.Perm xs → H p = none → Q (.ref p) (upd H p (.lst ys))
theorem cr_sortedPQ : CallR X (.builtin "sorted") (rSortedPQ X.K) := by
  intro pins s σ H vs us Q I r h
  obtain ⟨a, xs, k, rfl, hs, hx, q⟩ := h
  obtain ⟨its, rv, hl, hz⟩ := I.list hs
  obtain ⟨u, rfl, ru⟩ := vals1 r
  obtain rfl : u = Value.ref a := ru
  obtain ⟨e1, e2⟩ := refs_back rv fun x m => by
    obtain ⟨t, e, _⟩ := hx x m
    exact ⟨t, e⟩
  refine SrtO.sorted_pairsO (k := fun u => k (backV u)) hl.isList (by rw [← rv.length]; exact hz) (fun v hv => ?_) fun h' d out h1 h2 kp hd hn => ?_
  · obtain ⟨t, rfl⟩ := e2 v hv
    have hm : V.ref t ∈ xs := by rw [e1]; exact List.mem_map.mpr ⟨_, hv, rfl⟩
    obtain ⟨t', e, ht⟩ := hx _ hm
    cases e
    obtain ⟨its2, r2, tp, _⟩ := I.tuple ht
    obtain ⟨o, ho, hc, n, hd⟩ : s.heap.IsTuple t its2.toArray := tp
    obtain ⟨u1, u2, rfl, ri, rj⟩ := vals2 r2
    obtain ⟨t1, rfl⟩ := ri
    obtain ⟨t2, rfl⟩ := rj
    exact ⟨t, o, t1, t2, n, rfl, ho, hc, hd⟩
  · have h3 : ∀ u ∈ out, ∃ a, u = Value.ref a := fun u hu => e2 u (h2.perm.mem_iff.mp hu)
    obtain ⟨n, hn⟩ := hn
    have hb : (out.map backV).Perm xs := by
      rw [e1]
      exact h2.perm.map backV
    refine ⟨.ref d, upd H d (.lst (out.map backV)), I.laid (t' := s.toks) kp hd ⟨?_, out, n, vals_back h3, hn⟩, rfl, q _ d (SrtO.srtd_map h1) hb (I.hok.fresh hd)⟩
    rw [hb.length_eq]
    exact hz
abbrev sSortedP : DS := fun ss O P => ∃ (a : Sl) (ps : List (Int × Int)), ss = [a] ∧ LstD O a (ps.map pD) ∧ ∀ ps' : List (Int × Int), ps'.length = ps.length → (∀ p ∈ ps', p ∈ ps) → ps'.Pairwise (fun p q => SrtO.lexB q p = false) → P (.d (.list (ps'.map pD))) O
theorem cl_sortedP : CallR X (.builtin "sorted") (rOf X.K sSortedP) := cr_of cr_sortedPQ fun ss O P ⟨a, ps, es, hs, p⟩ F H vs Q sm w vo k => by
  subst es
  cases vo with
  | cons v1 r =>
    cases r
    obtain ⟨q, xs, rfl, hq, ha⟩ := lst_get hs v1 sm w
    have pick : ∀ x ∈ xs, ∃ p, p ∈ ps ∧ Dp X.K F x (pD p) := by
      clear p k hs hq v1
      induction ps generalizing xs with
      | nil =>
        cases ha
        exact fun x hx => by cases hx
      | cons p ps ih =>
        cases ha with
        | cons h1 h2 =>
          intro x hx
          rcases List.mem_cons.mp hx with e | hx
          · rw [e]; exact ⟨p, List.mem_cons_self, h1⟩
          · obtain ⟨p', g1, g2⟩ := ih _ h2 x hx
            exact ⟨p', List.mem_cons_of_mem _ g1, g2⟩
    have hl := dpAll_len ha
    rw [List.length_map] at hl
    classical
    let kf : V → Int × Int := fun x => if h : ∃ p, p ∈ ps ∧ Dp X.K F x (pD p) then h.choose else (0, 0)
    have hk : ∀ x ∈ xs, kf x ∈ ps ∧ Dp X.K F x (pD (kf x)) := fun x hx => by
      have h := pick x hx
      have e : kf x = h.choose := dif_pos h
      rw [e]
      exact h.choose_spec
    refine ⟨q, xs, kf, rfl, hq, fun x hx => ?_, fun ys r hsr hp hr => ?_⟩
    · obtain ⟨_, h2⟩ := hk x hx
      generalize kf x = pk at h2
      unfold pD at h2
      cases h2 with
      | @tup t us _ h3 h4 =>
        have e : us = [V.int pk.1, V.int pk.2] := by
          cases h4 with
          | cons g1 g2 =>
            cases g1
            cases g2 with
            | cons g3 g4 =>
              cases g3
              cases g4
              rfl
        subst e
        exact ⟨t, rfl, Same.tupS sm h3⟩
    · have st := Step.new (o := .lst ys) sm w hr
      have hd : ∀ zs : List V, (∀ z ∈ zs, z ∈ xs) → DpAll X.K F zs ((zs.map kf).map pD) := by
        intro zs
        induction zs with
        | nil => intro _; exact .nil
        | cons z zs ih => exact fun h => .cons (hk z (h z List.mem_cons_self)).2 (ih fun y hy => h y (List.mem_cons_of_mem _ hy))
      refine k _ _ _ (.d (.list ((ys.map kf).map pD))) O st (Dp.lst (.inl (.inl upd_same)) (dpMonoAll st.ff _ _ (hd ys fun z hz => hp.mem_iff.mp hz))) (p _ (by rw [List.length_map, hp.length_eq, hl]) (fun p hp2 => ?_) ?_)
      · obtain ⟨x, hx, e⟩ := List.mem_map.mp hp2
        rw [← e]
        exact (hk x (hp.mem_iff.mp hx)).1
      · exact List.pairwise_map.mpr hsr
end
/-! ### sorted(set(list)) -/
section
variable {P : Program} {w : World} {A : Around} {E : Value → Shared → Prop} {s : Shared}
abbrev seO (w : World) : Obj := { cls := .type "set", dict := none, data := .set #[] 0 (.fresh 0 0 (!w.params.followText "set-order")) }
set_option maxHeartbeats 8000000 in
theorem call_set_listR {l : Addr} {items : Array Value} (ns : List Int) {Q : Value → Shared → Prop} (hh : A.handled = none) (hl : s.heap.IsList l items) (hit : IntsAre items.toList ns) (hb : ns.length + 1 < scanBound)
    (h : ∀ (h' : Heap) (tk c : Nat), SetR w h' s.heap.objs.size (fun j => decide (j ∈ ns)) c → c ≤ ns.length → (∀ b o, s.heap.get? b = some o → h'.get? b = some o) → Q (.ref s.heap.objs.size) { s with heap := h', toks := tk }) :
    wpAny (model P w) A (call (.type "set") [.ref l]) Q E s := by
  have hisz : items.size = ns.length := (Array.length_toList (xs := items)).symm.trans (IntsAre.length hit)
  obtain ⟨c, tl, hmro⟩ := F.called_set.mro
  have hmade := F.called_set.made
  have hsub := F.called_set.sub
  refine wpAny_call (codeAny_of_tree ?_)
  show wpAny _ _ (callAny (.type "set") _) _ _ _
  refine wpAny_pure ⟨Code.quiet_builtin _ (by decide +kernel), codeAny_builtin F.entry_type_call ?_⟩
  rw [Around.under_plain (weight_type_call_type "set" [.ref l] []) rfl]
  have h1 := F.called_set.notType
  have h2 := F.called_set.canCreate
  have hct := F.typeCall_set_1 (.ref l)
  repeat (any_goals (first | assumption | wp_step))
  refine codeAny_mono (code_set_led1 (.ref l) (E := E) (Q₁ := fun obj s₁ => obj = .ref s.heap.objs.size ∧ s₁ = { s with heap := s.heap.push (seO w) }) ⟨rfl, rfl⟩) fun r s₁ hr => ?_
  cases r with
  | error e => exact hr
  | ok fl =>
    cases fl with
    | ret obj =>
      obtain ⟨rfl, rfl⟩ := hr
      have hS : (s.heap.push (seO w)).get? s.heap.objs.size = some (seO w) := Heap.get?_push_size _ rfl
      have hT : Shared.TypeIs { s with heap := s.heap.push (seO w) } (.ref s.heap.objs.size) "set" := ⟨_, hS, rfl⟩
      have hli := F.called_set.init.lookup
      have hbi := F.called_set.init.bind (.ref s.heap.objs.size)
      repeat (any_goals (first | assumption | wp_step))
      refine codeAny_mono (codeAny_call_builtin (R := wants (fun r s₂ => r = .none ∧ ∃ h' tk c, s₂ = { s with heap := h', toks := tk } ∧ SetR w h' s.heap.objs.size (fun j => decide (j ∈ ns)) c ∧ c ≤ ns.length ∧
          (∀ b o, s.heap.get? b = some o → h'.get? b = some o)) E) F.called_set.init.plain F.entry_set_init (check_set_init_1 hT ?_)) fun r₂ s₂ hr₂ => ?_
      · obtain ⟨ol, hol, hcl, nl, hdl⟩ := hl
        obtain ⟨ocls, odict, odata, oslots⟩ := ol
        simp only at hcl hdl
        subst hcl; subst hdl
        have hol' : (s.heap.push (seO w)).get? l = some { cls := .type "list", dict := odict, data := .seq items nl, slots := oslots } := Heap.get?_push_of_some _ hol
        have hsls := F.sub_list_set
        have hslf := F.sub_list_frozenset
        have hne : (Value.type "list" == Value.type "dict") = false := by decide
        have hl1 : (s.heap.push (seO w)).IsList l items := ⟨_, hol', rfl, nl, rfl⟩
        unfold Builtin.«set.__init__» noKeywords Builtin.Frozenset.updateFrom
        generalize hPI : pyIter = PI
        wp_walk
        subst hPI
        refine wpAny_pyIter_list hl1 ?_
        refine wpAny_bind (wpAny_runValue ?_)
        have hlS : l < s.heap.objs.size := Heap.lt_size hol
        have hh3 : A.in1.in1.in1.handled = none := by simp [hh]
        have hz1 : (s.heap.push (seO w)).objs.size = s.heap.objs.size + 1 := Heap.size_push ..
        have hneI : l ≠ (s.heap.push (seO w)).objs.size := by
          rw [hz1]; exact Nat.ne_of_lt (Nat.lt_succ_of_lt hlS)
        have hSf : s.heap.objs.size ∉ [(s.heap.push (seO w)).objs.size, l] := by
          rw [hz1]; simp only [List.mem_cons, List.mem_singleton, List.not_mem_nil, or_false, not_or]
          exact ⟨Nat.ne_of_lt (Nat.lt_succ_self _), Nat.ne_of_gt hlS⟩
        have hval : ∀ (i : Nat) (v : Value), items[i]? = some v → ∃ k t, ns[i]? = some k ∧ v = .int k t := fun i v hv => by
          have hi : i < ns.length := by rw [← hisz]; exact (Array.getElem?_eq_some_iff.mp hv).1
          obtain ⟨t, e⟩ := PyProof.Rows.IntsAre.int_at hit i v (by rw [Array.getElem?_toList]; exact hv)
          refine ⟨ns[i], t, List.getElem?_eq_getElem hi, ?_⟩
          rw [e, List.getD_eq_getElem?_getD, List.getElem?_eq_getElem hi] <;> rfl
        refine set_update_ints ((Walks.list hh3 _ l hneI items).toS) s.heap.objs.size
          hSf ns hisz hb hval (items.size - 0) 0 _ (by omega) (Nat.zero_le _)
          ⟨⟨_, Heap.get?_push_size _ rfl, rfl, rfl⟩, (hl1.push _)⟩ ?hS0 ?hR
        case hS0 => exact ⟨0, Nat.le_refl 0, setR_new_at (Heap.get?_push_of_some _ hS)⟩
        case hR =>
          intro s' c' hm hc' hS'
          obtain ⟨h', g2, d', tk', os'⟩ := s'
          have eg : g2 = s.gens := hm.gens
          have ed : d' = s.drawn := hm.drawn
          have eo : os' = s.os := hm.os
          subst eg; subst ed; subst eo
          show wpAny _ _ _ _ _ _
          refine wpAny_pure ?_
          show wpAny _ _ (ret Value.none) _ _ _
          rw [hisz] at hc'
          refine wpAny_pure ⟨rfl, h', tk', c', rfl, hS', hc', fun b o e => ?_⟩
          have hb0 : b < s.heap.objs.size := Heap.lt_size e
          have hb2 : b ≠ (s.heap.push (seO w)).objs.size := by
            rw [hz1]; exact Nat.ne_of_lt (Nat.lt_succ_of_lt hb0)
          exact hm.heap b o (by simp only [List.mem_cons, List.mem_singleton, List.not_mem_nil, or_false, not_or]; exact ⟨Nat.ne_of_lt hb0, hb2⟩) (Heap.get?_push_of_some _ (Heap.get?_push_of_some _ e))
      · cases r₂ with
        | error e => exact hr₂
        | ok fl₂ =>
          cases fl₂ with
          | ret r =>
            obtain ⟨rfl, h', tk, c', rfl, hS', hc', hk'⟩ := hr₂
            repeat (any_goals (first | assumption | wp_step))
            exact h _ _ _ hS' hc' hk'
          | _ => exact hr₂.elim
    | _ => exact hr.elim
end
section
variable {X : Cx}
def rSetI (K : PySem.W.Frag) (w : World) : List V → Hp → VK → Prop := fun xs H Q => ∃ (a : Addr) (ns : List Int), xs = [.ref a] ∧ SqL K H a (ns.map V.int) ∧ ns.length + 1 < scanBound ∧ ∀ p c, H p = none → c ≤ ns.length → Q (.ref p) (upd H p (SetO w p (fun j => decide (j ∈ ns)) c))
theorem cl_setI (hc : X.calm = true) : CallR X (.type "set") (rSetI X.K X.w) := by
  intro pins s σ H vs us Q I r h
  obtain ⟨a, ns, rfl, hs, hb, q⟩ := h
  obtain ⟨its, rv, hl, hz⟩ := I.list hs
  rw [Vals.ref1 r]
  refine call_set_listR ns (I.ok.hd hc) hl.isList (by simpa using rv.ints) hb fun h' tk c hS hc' hk => ?_
  exact ⟨.ref _, _, I.laid (t' := tk) hk (Nat.le_refl _) (setO_new hS), rfl, q _ c (I.hok.fresh (Nat.le_refl _)) hc'⟩
end
section
variable {K : PySem.W.Frag} {O : Own} {ρ : List Sl} {P : PS1} {w : World}
/-- sorted(set([..])) -/
theorem ev_sortedSet {t : TA} (h : EvA K t O ρ fun ss O1 => ∃ (a : Sl) (ns : List Int), ss = [a] ∧ LstD O1 a (dI ns) ∧ ns.length < 64 ∧ ∀ ns' : List Int, ns'.Pairwise (· < ·) → (∀ k, k ∈ ns' ↔ k ∈ ns) → P (.d (.list (dI ns'))) O1) : Ev K (tCB (rSortedSet w) (tCons (tCB (rSetI K w) t) tNil)) O ρ P :=
  fun F H σ Q sm rr ow k => h F H σ _ sm rr ow fun xs F1 H1 ss O1 st1 v1 ⟨a, ns, es, hs, h64, hp⟩ => by
    subst es
    cases v1 with
    | cons v1 r =>
      cases r
      obtain ⟨q, xs, rfl, hq, ha⟩ := lst_get hs v1 st1.fh st1.own
      have e := dp_ints ha
      subst e
      refine ⟨q, ns, rfl, hq, by unfold scanBound; omega, fun p c hpn hc => ?_⟩
      refine ⟨p, _, c, rfl, upd_same, by omega, fun ns' r h1 h2 h3 hr => ?_⟩
      have st2 := Step.new (o := SetO w p (fun j => decide (j ∈ ns)) c) st1.fh st1.own hpn
      have st3 := Step.new (o := .lst (ns'.map V.int)) st2.fh st2.own hr
      exact k _ _ _ (.d (.list (dI ns'))) O1 ((st1.trans st2).trans st3) (Dp.lst (.inl (.inl upd_same)) (ints_dp ns')) (hp ns' h1 fun k => by rw [h2 k]; simp)
end
end AL

namespace AL
open PySem PySem.Spec PyProof.Rows L2
/-- a def of the top, where it stands -/
structure Fn (K : PySem.W.Frag) (mg : Str → Option Value) (x : Str) (st : Stmt) (ps : List Str) : Prop where
  ex : ∃ f fd, FunD K x x (defArgs st) (defBody st) (defScope st) [] [] f fd ∧ mg x = some (.ref f) ∧ Binds K fd ps []
section
variable {P : Program} {w : World} {K : PySem.W.Frag} {mg : Str → Option Value} {base : Heap}
theorem Cal.mkF {x : Str} {st : Stmt} {N ps : List Str} {k : Nat} {S : DS} (F : Fn K mg x st ps) (sc : FnScope N ps (defScope st)) (hl : ∀ ss O P, S ss O P → ss.length = ps.length)
    (h : ∀ (f : Addr) (cdv : Value) (A : Around) (outer : List Env) (s : Shared) (H : Hp) (E : XK), Room k (A.deeper (envOfC x (defScope st) s.heap.objs.size f cdv)) → ∃ t, PSs (cxOf CX0 P w K mg base N x (defScope st) f cdv A outer s H E).nox (defBody st) t ∧
      ∀ ss O P, S ss O P → StW K t O (ss ++ List.replicate (N.length - ss.length) .u) { nx := fun _ O' => P (.d .none) O', rt := P }) : Cal P w K mg base x S (k + 1) := by
  obtain ⟨f, fd, F1, gm, hb⟩ := F.ex
  refine Cal.mk' F1 gm sc hb hl fun cdv A outer s H E hr => ?_
  obtain ⟨t, h1, h2⟩ := h f cdv A outer s H E hr
  exact ⟨t, PSs.nox h1, h2⟩
end
theorem eqv_int (a b : Int) : (PyData.int a).eqv (PyData.int b) = decide (a = b) := by
  by_cases h : a = b
  · subst h
    simp [PyData.eqv]
  · simp [PyData.eqv, h]
theorem neqv_int (a b : Int) : (!(PyData.int a).eqv (PyData.int b)) = decide (a ≠ b) := by rw [eqv_int]; simp
theorem natAbs_gcd (a b : Int) : Int.gcd b (a % b) = Int.gcd a b := by
  rw [Int.gcd_comm b (a % b), Int.gcd_comm a b, Int.gcd_comm (a % b) b]
  have h : a = a % b + b * (a / b) := (Int.emod_add_mul_ediv a b).symm
  conv => rhs; rw [h]
  simp
/-! ### comprehensions of ints -/
section
variable {K : PySem.W.Frag} {O : Own} {ρ : List Sl} {P : PS1}
theorem lc_xf {α : Type} {wi : TI} {g : TG} {tt : TT} {te : TE} {vs : List Nat} {xs : List α} {f : α → PyData} (t : α → Bool) (G : α → Int) (hg : GOnly g vs)
    (h : EvI K wi O ρ fun items O1 => items = xs.map f ∧ O1 = O ∧ xs.length ≤ sizeLine ∧ (∀ x ∈ xs, Gw K g (.d (f x)) O (wipeS ρ vs) fun ρ2 O2 => O2 = O ∧ EvT K tt O ρ2 fun b O3 => b = t x ∧ O3 = O ∧ (t x = true → Ev K te O ρ2 fun y O4 => y = .d (.int (G x)) ∧ O4 = O)) ∧
      P (.d (.list (dI ((xs.filter t).map G)))) O) : Ev K (tLc wi g tt te vs) O ρ P :=
  lc_fm t (fun x => .int (G x)) hg fun F H σ R sm rr w k => h F H σ R sm rr w fun J F' H' ds O' st io ⟨e1, e2, hz, turn, fin⟩ => k J F' H' ds O' st io ⟨e1, e2, hz, turn, by
    have e : ((xs.filter t).map fun x => PyData.int (G x)) = dI ((xs.filter t).map G) := by
      show _ = List.map _ (List.map _ _)
      rw [List.map_map]
      rfl
    rw [e]
    exact fin⟩
theorem lc_xi {α : Type} {wi : TI} {g : TG} {te : TE} {vs : List Nat} {xs : List α} {f : α → PyData} (G : α → Int) (hg : GOnly g vs)
    (h : EvI K wi O ρ fun items O1 => items = xs.map f ∧ O1 = O ∧ xs.length ≤ sizeLine ∧ (∀ x ∈ xs, Gw K g (.d (f x)) O (wipeS ρ vs) fun ρ2 O2 => O2 = O ∧ Ev K te O ρ2 fun y O4 => y = .d (.int (G x)) ∧ O4 = O) ∧
      P (.d (.list (dI (xs.map G)))) O) : Ev K (tLc wi g tYes te vs) O ρ P :=
  lc_map (fun x => .int (G x)) hg fun F H σ R sm rr w k => h F H σ R sm rr w fun J F' H' ds O' st io ⟨e1, e2, hz, turn, fin⟩ => k J F' H' ds O' st io ⟨e1, e2, hz, turn, by
    have e : (xs.map fun x => PyData.int (G x)) = dI (xs.map G) := by
      show _ = List.map _ (List.map _ _)
      rw [List.map_map]
      rfl
    rw [e]
    exact fin⟩
/-- a == b == c of data -/
theorem ev_chainD {ta tb tc : TE} (h : Ev K ta O ρ fun a O1 => ∃ i, a = .d (.int i) ∧ Ev K tb O1 ρ fun b O2 => ∃ j, b = .d (.int j) ∧
    (i = j → Ev K tc O2 ρ fun c O3 => ∃ l, c = .d (.int l) ∧ P (.d (.bool (decide (j = l)))) O3) ∧ (i ≠ j → P (.d (.bool false)) O2)) :
    Ev K (tChain (rEqD K) (rEqD K) ta tb tc) O ρ P :=
  fun F H σ Q sm rr w k => h F H σ _ sm rr w fun x F1 H1 a O1 st1 v1 ⟨i, ea, hb⟩ =>
    hb F1 H1 σ _ st1.fh (rr.mono st1.ff) st1.own fun y F2 H2 b O2 st2 v2 ⟨j, eb, h1, h2⟩ => by
      subst ea
      subst eb
      refine ⟨.int i, .int j, dpMono (st2.ff.trans st2.fh) _ _ v1, dpMono st2.fh _ _ v2, rfl, rfl, PyData.eqv (.int i) (.int j), rfl, ?_⟩
      rw [eqv_int]
      by_cases e : i = j
      · rw [decide_eq_true e]
        refine h1 e F2 H2 σ _ st2.fh (rr.mono (st1.ff.trans st2.ff)) st2.own fun z F3 H3 c O3 st3 v3 ⟨l, ec, p⟩ => ?_
        subst ec
        refine ⟨.int j, .int l, dpMono (st3.ff.trans st3.fh) _ _ v2, dpMono st3.fh _ _ v3, rfl, rfl, ?_⟩
        rw [eqv_int]
        exact k _ F3 H3 (.d (.bool _)) O3 ((st1.trans st2).trans st3) (Dp.bl _) p
      · rw [decide_eq_false e]
        exact k _ F2 H2 (.d (.bool false)) O2 (st1.trans st2) (Dp.bl false) (h2 e)
end
/-- 0, 1, .. -/
def rng (n : Nat) : List Int := (List.range n).map fun (i : Nat) => (i : Int)
theorem rng_len (n : Nat) : (rng n).length = n := by unfold rng; rw [List.length_map, List.length_range]
theorem rng_mem {n : Nat} {x : Int} : x ∈ rng n ↔ 0 ≤ x ∧ x < n := by
  unfold rng
  rw [List.mem_map]
  constructor
  · rintro ⟨i, h, rfl⟩
    have := List.mem_range.mp h
    omega
  · rintro ⟨h1, h2⟩
    exact ⟨x.toNat, List.mem_range.mpr (by omega), Int.toNat_of_nonneg h1⟩
theorem rgD_dI (n : Nat) : rgD 0 n = dI (rng n) := by
  unfold rgD dI rng
  rw [List.map_map]
  refine List.map_congr_left fun i _ => ?_
  show PyData.int (0 + (i : Nat)) = PyData.int (i : Nat)
  rw [Int.zero_add]
theorem rng_succ (n : Nat) : rng (n + 1) = rng n ++ [(n : Int)] := by
  unfold rng
  rw [List.range_succ, List.map_append]
  rfl
theorem rng_get {n i : Nat} (h : i < n) : (rng n)[i]? = some (i : Int) := by
  unfold rng
  rw [List.getElem?_map, List.getElem?_range h]
  rfl
theorem seqP_ne {s : Sl} {ds : List PyData} (h : SeqP s ds) : s ≠ .u := by
  rcases h with rfl | rfl <;> exact fun z => nomatch z
section
variable {K : PySem.W.Frag} {O : Own} {ρ : List Sl} {P : PS1}
/-- list(range(n)) -/
theorem ev_listRg {ta : TE} (h : Ev K ta O ρ fun a O1 => ∃ n : Int, a = .d (.int n) ∧ (-1000 ≤ n ∧ n ≤ 16777216) ∧ P (.d (.list (dI (rng n.toNat)))) O1) : Ev K (tLstRg (tRg1 ta)) O ρ P :=
  fun F H σ Q sm rr w k => h F H σ _ sm rr w fun x F1 H1 a O1 st1 v1 ⟨n, ea, hn, p⟩ => by
    subst ea
    have v1' : Dp K F1 x (.int n) := v1
    cases v1'
    refine ⟨n, rfl, ⟨by omega, by omega, by omega, by omega, by omega⟩, fun q hq => ?_⟩
    have st2 := Step.new (o := .lst (rgV 0 n)) st1.fh st1.own hq
    refine k _ _ _ (.d (.list (dI (rng n.toNat)))) O1 (st1.trans st2) (Dp.lst (.inl (.inl upd_same)) ?_) p
    have e : rgV 0 n = (rng n.toNat).map V.int := by
      unfold rgV rng
      rw [List.map_map, Int.sub_zero]
      refine List.map_congr_left fun i _ => ?_
      show V.int (0 + (i : Nat)) = V.int (i : Nat)
      rw [Int.zero_add]
    rw [e]
    exact ints_dp _
end
section
variable {K : PySem.W.Frag} {O : Own} {ρ : List Sl} {P : PS1}
theorem lc_fmE {α : Type} {wi : TI} {g : TG} {tt : TT} {te : TE} {vs : List Nat} {f : α → PyData} (t : α → Bool) (G : α → PyData) (hg : GOnly g vs)
    (h : EvI K wi O ρ fun items O1 => ∃ xs : List α, items = xs.map f ∧ O1 = O ∧ xs.length ≤ sizeLine ∧ (∀ x ∈ xs, Gw K g (.d (f x)) O (wipeS ρ vs) fun ρ2 O2 => O2 = O ∧ EvT K tt O ρ2 fun b O3 => b = t x ∧ O3 = O ∧ (t x = true → Ev K te O ρ2 fun y O4 => y = .d (G x) ∧ O4 = O)) ∧
      P (.d (.list ((xs.filter t).map G))) O) : Ev K (tLc wi g tt te vs) O ρ P :=
  lc_d hg fun F H σ R sm rr w k => h F H σ R sm rr w fun J F' H' ds O' st io ⟨xs, e1, e2, hz, turn, fin⟩ => by
    subst e1
    subst e2
    refine k J F' H' _ _ st io ⟨fun i acc O2 => O2 = O' ∧ acc = ((xs.take i).filter t).map G, ⟨rfl, rfl⟩, fun i x acc O2 hx ⟨eo, ea⟩ => ?_, fun acc O2 ⟨eo, ea⟩ => ?_⟩
    · subst eo
      rw [List.getElem?_map] at hx
      cases e : xs[i]? with
      | none =>
        rw [e] at hx
        cases hx
      | some a =>
        rw [e] at hx
        have ex : f a = x := Option.some.inj hx
        subst ex
        have hi : i < xs.length := (List.getElem?_eq_some_iff.mp e).1
        have step : ((xs.take (i + 1)).filter t).map G = ((xs.take i).filter t).map G ++ (if t a = true then [G a] else []) := by
          rw [List.take_add_one, e, List.filter_append, List.map_append]
          congr 1
          show (List.filter t [a]).map G = _
          rw [List.filter_cons]
          by_cases ht : t a = true
          · rw [if_pos ht, if_pos ht]; rfl
          · rw [if_neg ht, if_neg ht]; rfl
        have hl : acc.length < sizeLine := by
          rw [ea, List.length_map]
          have h1 := List.length_filter_le t (xs.take i)
          rw [List.length_take] at h1
          omega
        refine fun F H σ v Q sm rr w vo kk => turn a (List.mem_of_getElem? e) F H σ v Q sm rr w vo fun σ' F2 H2 ρ2 O3 st2 r2 ⟨eo3, ht⟩ => kk σ' F2 H2 ρ2 O3 st2 r2 ?_
        subst eo3
        refine ht.mono fun b O4 ⟨eb, eo4, hT⟩ => ?_
        subst eo4
        refine ⟨fun hb => ?_, fun hb => ⟨rfl, ?_⟩⟩
        · have htr : t a = true := by rw [← eb]; exact hb
          exact (hT htr).mono fun y O5 ⟨ey, eo5⟩ => ⟨G a, ey, hl, eo5, by rw [step, if_pos htr, ea]⟩
        · have htr : ¬ t a = true := by rw [← eb, hb]; decide
          rw [step, if_neg htr, ea, List.append_nil]
    · subst eo
      rw [List.length_map, List.take_length] at ea
      rw [ea]
      exact fin
theorem lc_xiE {α : Type} {wi : TI} {g : TG} {te : TE} {vs : List Nat} {f : α → PyData} (G : α → Int) (hg : GOnly g vs)
    (h : EvI K wi O ρ fun items O1 => ∃ xs : List α, items = xs.map f ∧ O1 = O ∧ xs.length ≤ sizeLine ∧ (∀ x ∈ xs, Gw K g (.d (f x)) O (wipeS ρ vs) fun ρ2 O2 => O2 = O ∧ Ev K te O ρ2 fun y O4 => y = .d (.int (G x)) ∧ O4 = O) ∧
      P (.d (.list (dI (xs.map G)))) O) : Ev K (tLc wi g tYes te vs) O ρ P :=
  lc_fmE (fun _ => true) (fun x => .int (G x)) hg fun F H σ R sm rr w k => h F H σ R sm rr w fun J F' H' ds O' st io ⟨xs, e1, e2, hz, turn, fin⟩ =>
    k J F' H' ds O' st io ⟨xs, e1, e2, hz, fun x hx F H σ v Q sm rr w vo kk => turn x hx F H σ v Q sm rr w vo fun σ' F2 H2 ρ2 O3 st2 r2 ⟨a, b⟩ => kk σ' F2 H2 ρ2 O3 st2 r2 ⟨a, et_yes ⟨rfl, rfl, fun _ => b⟩⟩, by
      rw [filter_true]
      have e : (xs.map fun x => PyData.int (G x)) = dI (xs.map G) := by
        show _ = List.map _ (List.map _ _)
        rw [List.map_map]
        rfl
      rw [e]
      exact fin⟩
end
end AL

namespace AL
open PySem PySem.Spec PyProof.Rows L2
/-! ### < of data that are alike; min of them -/
def rLtD (K : PySem.W.Frag) : R2 := fun x y H Q => ∃ d e, Dp K H x d ∧ Dp K H y e ∧ PySem.W.alike d e = true ∧ d ≠ .none ∧ min d.depth e.depth ≤ 60 ∧ Q (.bl (PySem.W.dataLt d e)) H
theorem op_ltD {X : Cx} (hu : X.A.units + 64 < cLine) : OpR X (compareOp .Lt) (rLtD X.K) := by
  intro pins s σ H x y v u Q I rx ry h
  obtain ⟨d, e, hd, he, ha, hn, hz, q⟩ := h
  obtain ⟨as, r1⟩ := Dp.reads I d x v hd rx
  obtain ⟨bs, r2⟩ := Dp.reads I e y u he ry
  exact PySem.W.lt_data r1 r2 ha hn (by omega) ⟨.bl _, H, I, rfl, q⟩
theorem dpAll_at {K : PySem.W.Frag} {F : Hp} : ∀ {ds : List PyData} {vs : List V} {i : Nat} {v : V}, DpAll K F vs ds → vs[i]? = some v → ∃ d, ds[i]? = some d ∧ Dp K F v d
  | [], _, _, _, h, e => by cases h; simp at e
  | d :: ds, _, 0, _, h, e => by
    cases h with
    | cons h1 h2 =>
      have e' := Option.some.inj e
      subst e'
      exact ⟨_, rfl, h1⟩
  | d :: ds, _, i + 1, _, h, e => by
    cases h with
    | cons h1 h2 =>
      obtain ⟨v, e1, e2⟩ := dpAll_at (i := i) h2 e
      exact ⟨v, e1, e2⟩
theorem vals_at : ∀ {vs : List V} {us : List Value} {i : Nat} {u : Value}, Vals vs us → us[i]? = some u → ∃ v, vs[i]? = some v ∧ RelV v u
  | _, _, i, u, .nil, e => by simp at e
  | _, _, 0, u, .cons h t, e => by
    have e' := Option.some.inj e
    subst e'
    exact ⟨_, rfl, h⟩
  | _, _, i + 1, u, .cons h t, e => vals_at (i := i) t e
def rMinD (K : PySem.W.Frag) : List V → Hp → VK → Prop := fun vs H Q => ∃ (a : Addr) (ys : List V) (x : PyData) (zs : List PyData), vs = [V.ref a] ∧ SqL K H a ys ∧ DpAll K H ys (x :: zs) ∧ PySem.W.AlikeAll (x :: zs) ∧ PyData.depthAll (x :: zs) ≤ 60 ∧
  ∀ (i : Nat) v, ys[i]? = some v → (x :: zs)[i]? = some (PySem.W.minD x zs) → Q v H
theorem cr_minD {X : Cx} (hc : X.calm = true) (hu : X.A.units + 64 < cLine) : CallR X (.builtin "min") (rMinD X.K) := by
  intro pins s σ H vs us Q I r h
  obtain ⟨a, ys, x, zs, rfl, hs, hd, ha, hz, q⟩ := h
  obtain ⟨its, rv, hl, _⟩ := I.list hs
  rw [Vals.ref1 r]
  obtain ⟨as, hr⟩ := Dp.readsAll I (x :: zs) ys its hd rv
  have hli : s.heap.IsList a its.toArray := hl.isList
  refine PySem.W.min_list_data (I.ok.hd hc) hli (by simpa using hr) ha (by omega) fun i v h' tk bs hv hrd hk => ?_
  have hv2 : its[i]? = some v := by simpa using hv
  obtain ⟨y, hy, ry⟩ := vals_at rv hv2
  obtain ⟨d, hdi, hdp⟩ := dpAll_at hd hy
  obtain ⟨cs, r1⟩ := Dp.reads I d y v hdp ry
  have e := (PySem.Reads.unique (PySem.W.reads_keeps hk r1) _ _ hrd).1
  rw [e] at hdi
  exact ⟨y, H, I.kept hk, ry, q i y hy hdi⟩
section
variable {K : PySem.W.Frag} {O : Own} {ρ : List Sl} {P : PS1}
theorem ev_ltD {ta tb : TE} (h : Ev K ta O ρ fun a O1 => ∃ d, a = .d d ∧ Ev K tb O1 ρ fun b O2 => ∃ e, b = .d e ∧ PySem.W.alike d e = true ∧ d ≠ .none ∧ min d.depth e.depth ≤ 60 ∧ P (.d (.bool (PySem.W.dataLt d e))) O2) : Ev K (tOp (rLtD K) ta tb) O ρ P :=
  ev_op h fun a O1 ⟨d, ea, hb⟩ => hb.mono fun b O2 ⟨e, eb, h1, h2, h3, p⟩ F H σ x y Q sm rr w hx hy k => by
    subst ea
    subst eb
    exact ⟨d, e, dpMono sm _ _ hx, dpMono sm _ _ hy, h1, h2, h3, k _ F H (.d (.bool _)) O2 (Step.refl sm w) (Dp.bl _) p⟩
end
abbrev sMinD : DS := fun ss O P => ∃ a x zs, ss = [a] ∧ LstD O a (x :: zs) ∧ PySem.W.AlikeAll (x :: zs) ∧ PyData.depthAll (x :: zs) ≤ 60 ∧ P (.d (PySem.W.minD x zs)) O
theorem cl_minD {X : Cx} (hc : X.calm = true) (hu : X.A.units + 64 < cLine) : CallR X (.builtin "min") (rOf X.K sMinD) := cr_of (cr_minD hc hu) fun ss O P ⟨a, x, zs, es, hs, h1, h2, hp⟩ F H vs Q sm w vo k => by
  subst es
  cases vo with
  | cons v1 r =>
    cases r
    obtain ⟨p, xs, e1, hq, ha⟩ := lst_get hs v1 sm w
    subst e1
    exact ⟨p, xs, x, zs, rfl, hq, dpMonoAll sm _ _ ha, h1, h2, fun j v hv hj => by
        obtain ⟨v2, e2, hdp⟩ := dpAll_get ha hj
        rw [hv] at e2
        cases e2
        exact k v F H (.d (PySem.W.minD x zs)) O (Step.refl sm w) hdp hp⟩
/-! ### own dicts -/
section
variable {K : PySem.W.Frag} {O : Own} {ρ : List Sl} {P : PS1}
abbrev ikD (k : Int) (d : PyData) : Key × PyData := (.inl k, d)
theorem ev_dnew (h : ∀ p, P (.v (.ref p)) ((p, .dK []) :: O)) : Ev K tDNewK O ρ P :=
  fun F H σ Q sm rr w k => fun p hp => by
    have st := Step.newO (o := .dK []) (c := .dK []) sm w hp ⟨[], rfl, .nil⟩
    exact k _ _ _ _ _ st (show VOk K _ (V.ref p) (.v (.ref p)) from rfl) (h p)
theorem ev_dispI {tk tv : TE} (h : Ev K tk O ρ fun a O1 => ∃ n : Int, a = .d (.int n) ∧ Ev K tv O1 ρ fun b O2 => ∃ d, b = .d d ∧ ∀ p, P (.v (.ref p)) ((p, .dK [ikD n d]) :: O2)) : Ev K (tDisp [(tk, tv)]) O ρ P :=
  fun F H σ Q sm rr w k => fun p hp => by
    have st0 := Step.newO (o := .dK []) (c := .dK []) sm w hp ⟨[], rfl, .nil⟩
    have pm : ∀ (U : Own), ((p, Oc.dK []) :: U).Perm (U ++ [(p, .dK [])]) := fun U => List.perm_append_comm (l₁ := [(p, Oc.dK [])]) (l₂ := U)
    have wP := st0.own.perm (pm O)
    have s0 := st0.trans (Step.perm st0.fh st0.own (pm O))
    refine h F _ σ _ st0.fh rr (wP.sub (List.sublist_append_left _ _)) fun x F1 H1 a O1 st1 v1 ⟨n, ea, hb⟩ => ?_
    subst ea
    have s1 := s0.trans (Step.frame wP st1)
    refine hb F1 H1 σ _ st1.fh (rr.mono st1.ff) st1.own fun y F2 H2 b O2 st2 v2 ⟨d, eb, hp2⟩ => ?_
    subst eb
    have s2 := s1.trans (Step.frame s1.own st2)
    have s3 := s2.trans (Step.perm s2.fh s2.own (pm O2).symm)
    obtain ⟨hF3, o, hH2, kvs, eo, hkv⟩ := own_get (i := 0) (p := p) (c := .dK []) s3.own rfl
    subst eo
    cases hkv
    have hx : x = .int n := by cases v1; rfl
    subst hx
    show H2 p = some (.dK []) ∧ _
    refine ⟨hH2, [(.inl n, y)], rfl, Nat.le_of_ble_eq_true rfl, ?_⟩
    have s4 := s3.trans (Step.write (i := 0) (c := .dK []) (c' := .dK [ikD n d]) (o := .dK [(.inl n, y)]) s3.fh s3.own rfl ⟨_, rfl, .cons v2 .nil⟩)
    exact k _ _ _ _ _ s4 (show VOk K _ (V.ref p) (.v (.ref p)) from rfl) (hp2 p)
end
def putD (kds : List (Key × PyData)) (k : Key) (d : PyData) : List (Key × PyData) :=
  if (kds.any fun kd => decide (kd.1 = k)) = true then kds.map (fun kd => if kd.1 = k then (kd.1, d) else kd) else kds ++ [(k, d)]
def valD (kds : List (Key × PyData)) (k : Key) : Option PyData := (kds.find? fun kd => decide (kd.1 = k)).map (·.2)
def kD : Key → PyData
  | .inl n => .int n
  | .inr s => .str s
section
variable {K : PySem.W.Frag} {F : Hp} {kvs : List (Key × V)} {kds : List (Key × PyData)} {k : Key} {v : V} {d : PyData}
theorem kvd_any (h : KVD K F kvs kds) (k : Key) : (kvs.any fun kv => decide (kv.1 = k)) = kds.any fun kd => decide (kd.1 = k) := by
  induction h with
  | nil => rfl
  | cons h1 h2 ih => simp only [List.any_cons, ih]
theorem kvd_map (h : KVD K F kvs kds) (hv : Dp K F v d) : KVD K F (kvs.map fun kv => if kv.1 = k then (kv.1, v) else kv) (kds.map fun kd => if kd.1 = k then (kd.1, d) else kd) := by
  induction h with
  | nil => exact .nil
  | @cons k2 v2 d2 kvs kds h1 h2 ih =>
    simp only [List.map_cons]
    by_cases e : k2 = k
    · rw [if_pos e, if_pos e]; exact .cons hv ih
    · rw [if_neg e, if_neg e]; exact .cons h1 ih
theorem kvd_snoc (h : KVD K F kvs kds) (hv : Dp K F v d) : KVD K F (kvs ++ [(k, v)]) (kds ++ [(k, d)]) := by
  induction h with
  | nil => exact .cons hv .nil
  | cons h1 h2 ih => exact .cons h1 ih
theorem kvd_put (h : KVD K F kvs kds) (hv : Dp K F v d) : KVD K F (putK kvs k v) (putD kds k d) := by
  unfold putK putD
  rw [kvd_any h k]
  by_cases e : (kds.any fun kd => decide (kd.1 = k)) = true
  · rw [if_pos e, if_pos e]; exact kvd_map h hv
  · rw [if_neg e, if_neg e]; exact kvd_snoc h hv
theorem kvd_len (h : KVD K F kvs kds) : kvs.length = kds.length := by
  induction h with
  | nil => rfl
  | cons _ _ ih => exact congrArg (· + 1) ih
theorem kvd_at (h : KVD K F kvs kds) : ∀ {i : Nat}, kvs[i]? = some (k, v) → ∃ d, kds[i]? = some (k, d) ∧ Dp K F v d := by
  induction h with
  | nil => intro i e; simp at e
  | cons h1 h2 ih =>
    intro i e
    cases i with
    | zero => cases e; exact ⟨_, rfl, h1⟩
    | succ i => exact ih (i := i) e
theorem kvd_val (h : KVD K F kvs kds) (k : Key) : (valV kvs k = none ∧ valD kds k = none) ∨ ∃ v d, valV kvs k = some v ∧ valD kds k = some d ∧ Dp K F v d := by
  induction h with
  | nil => exact .inl ⟨rfl, rfl⟩
  | @cons k2 v2 d2 kvs kds h1 h2 ih =>
    unfold valV valD
    by_cases e : k2 = k
    · rw [List.find?_cons_of_pos (by simpa using e), List.find?_cons_of_pos (by simpa using e)]
      exact .inr ⟨_, _, rfl, rfl, h1⟩
    · rw [List.find?_cons_of_neg (by simpa using e), List.find?_cons_of_neg (by simpa using e)]
      exact ih
theorem dp_kD : ∀ k : Key, Dp K F (kV k) (kD k)
  | .inl n => .int n
  | .inr s => .str s
end
section
variable {K : PySem.W.Frag} {O : Own} {ρ : List Sl} {P : PS1}
/-- d[k] = v, d an own dict with int keys -/
theorem st_dput {td ty tv : TE} {P : Pst} (h : Ev K tv O ρ fun a O1 => ∃ d, a = .d d ∧ Ev K td O1 ρ fun b O2 => ∃ p, b = .v (.ref p) ∧ Ev K ty O2 ρ fun c O3 => ∃ (n : Int) (i : Nat) (kds : List (Key × PyData)), c = .d (.int n) ∧ O3[i]? = some (p, .dK kds) ∧ kds.length < sizeLine ∧
    P.nx ρ (O3.set i (p, .dK (putD kds (.inl n) d)))) : StW K (sDPut td ty tv) O ρ P :=
  fun F H σ D sm rr w e => h F H σ _ sm rr w fun v F1 H1 a O1 st1 v1 ⟨d, ea, h2⟩ => by
    subst ea
    refine h2 F1 H1 σ _ st1.fh (rr.mono st1.ff) st1.own fun x F2 H2 b O2 st2 v2 ⟨p, eb, h3⟩ => ?_
    subst eb
    have ex : x = .ref p := v2
    subst ex
    have s2 := st1.trans st2
    refine h3 F2 H2 σ _ st2.fh (rr.mono s2.ff) st2.own fun y F3 H3 c O3 st3 v3 ⟨n, i, kds, ec, hO, hl, hp⟩ => ?_
    subst ec
    have ey : y = .int n := by cases v3; rfl
    subst ey
    have s3 := s2.trans st3
    obtain ⟨_, o, hH, kvs, eo, hkv⟩ := own_get s3.own hO
    subst eo
    refine ⟨p, _, rfl, DPut.k (k := .inl n) hH (by rw [kvd_len hkv]; exact hl), ?_⟩
    have s4 := s3.trans (Step.write (c' := .dK (putD kds (.inl n) d)) (o := .dK (putK kvs (.inl n) v)) s3.fh s3.own hO ⟨_, rfl, kvd_put hkv (dpMono (st2.ff.trans st3.ff) _ _ v1)⟩)
    exact e.nx σ F3 _ ρ _ s4 (rr.mono s4.ff) hp
theorem not_erased {O : Own} {i : Nat} {p : Addr} {c : Oc} (nd : (dom O).Nodup) (e : O[i]? = some (p, c)) : p ∉ dom (O.eraseIdx i) := by
  intro hm
  obtain ⟨⟨q, c2⟩, hq, eq⟩ := List.mem_map.mp hm
  have eq' : q = p := eq
  subst eq'
  have a0 : (dom O)[i]? = some q := by
    show (O.map (·.1))[i]? = _
    rw [List.getElem?_map, e]
    rfl
  obtain ⟨l1, g1⟩ := List.getElem?_eq_some_iff.mp a0
  obtain ⟨j, hj, ej⟩ := List.getElem_of_mem hq
  have hj2 : (O.eraseIdx i)[j]? = some (q, c2) := by rw [List.getElem?_eq_getElem hj, ej]
  rw [List.getElem?_eraseIdx] at hj2
  have key : ∀ m, O[m]? = some (q, c2) → m = i := fun m hm2 => by
    have a2 : (dom O)[m]? = some q := by
      show (O.map (·.1))[m]? = _
      rw [List.getElem?_map, hm2]
      rfl
    obtain ⟨l2, g2⟩ := List.getElem?_eq_some_iff.mp a2
    exact (List.getElem_inj nd).mp (g2.trans g1.symm)
  split at hj2
  · have := key _ hj2; omega
  · have := key _ hj2; omega
/-- behind a lock -/
theorem Step.unlock {O O2 : Own} {F H F2 H2 : Hp} {i : Nat} {p : Addr} {c : Oc} {u : HO} {od : Obj} (sm : Same F H) (w : OwnOk K F H O) (e : O[i]? = some (p, c)) (hu : H p = some u) (hc : OcOk K F u c)
    (st : Step K (O.eraseIdx i) F (upd H p (.frz od u)) O2 F2 H2) : H2 p = some (.frz od u) ∧ Step K O F H ((p, c) :: O2) F2 (upd H2 p u) := by
  have hn := not_erased w.nd e
  obtain ⟨hF, _⟩ := own_get w e
  obtain ⟨k1, k2⟩ := st.kp p _ upd_same hn
  have hpd : p ∈ dom O := List.mem_map.mpr ⟨_, List.mem_of_getElem? e, rfl⟩
  have hn2 : p ∉ dom O2 := fun z => by
    rcases st.sub p z with q | q
    · exact hn q
    · rw [upd_same] at q; cases q
  have sube : ∀ b, b ∈ dom (O.eraseIdx i) → b ∈ dom O := fun b hb => by
    obtain ⟨z, hz, ez⟩ := List.mem_map.mp hb
    exact List.mem_map.mpr ⟨z, List.mem_of_mem_eraseIdx hz, ez⟩
  refine ⟨k1, st.ff, fun b o eb => ?_, fun b o eb hb => ?_, fun b o eb => ?_, ⟨List.nodup_cons.mpr ⟨hn2, st.own.nd⟩, fun q c2 hq => ?_⟩, fun b hb => ?_⟩
  · have hne : b ≠ p := fun z => by rw [z, k2, hF] at eb; cases eb
    rw [upd_ne hne]
    exact st.fh b o eb
  · have hne : b ≠ p := fun z => hb (by rw [z]; exact hpd)
    obtain ⟨q1, q2⟩ := st.kp b o (by rw [upd_ne hne]; exact eb) (fun z => hb (sube b z))
    exact ⟨by rw [upd_ne hne]; exact q1, q2⟩
  · by_cases z : b = p
    · exact ⟨u, by rw [z, upd_same]⟩
    · obtain ⟨o', h'⟩ := st.th b o (by rw [upd_ne z]; exact eb)
      exact ⟨o', by rw [upd_ne z]; exact h'⟩
  · rcases List.mem_cons.mp hq with z | hq
    · cases z
      exact ⟨k2.trans hF, u, upd_same, hc.mono st.ff⟩
    · obtain ⟨q1, o, q2, q3⟩ := st.own.at_ q c2 hq
      have hne : q ≠ p := fun z => hn2 (by rw [← z]; exact List.mem_map.mpr ⟨_, hq, rfl⟩)
      exact ⟨q1, o, by rw [upd_ne hne]; exact q2, q3⟩
  · rcases List.mem_cons.mp hb with z | hb
    · exact .inl (by rw [z]; exact hpd)
    · rcases st.sub b hb with q | q
      · exact .inl (sube b q)
      · by_cases z : b = p
        · rw [z, upd_same] at q; cases q
        · rw [upd_ne z] at q; exact .inr q
/-- a turn over a locked dict's items -/
theorem items_turn {O1 : Own} {F1 H1 : Hp} {p : Addr} {od : Obj} {kvs : List (Key × V)} {kds : List (Key × PyData)} {i : Nat} {x : V} {H3 : Hp} (s1 : Same F1 H1) (w1 : OwnOk K F1 H1 O1) (hkv : KVD K F1 kvs kds) (y : (Iti p od kvs).yld i H1 x H3) :
    ∃ k d F3, kds[i]? = some (k, d) ∧ Step K O1 F1 H1 O1 F3 H3 ∧ Dp K F3 x (.tuple [kD k, d]) := by
  obtain ⟨T, k, v, hk, rfl, hT, rfl⟩ := y
  obtain ⟨d, hd, hv⟩ := kvd_at hkv hk
  have st := Step.new (o := .tup [kV k, v]) s1 w1 hT
  exact ⟨k, d, _, hd, st, Dp.tup (.inl (.inl upd_same)) (.cons (dp_kD k) (.cons (dpMono st.ff _ _ hv) .nil))⟩
/-- what is no longer wanted is let go behind an expression -/
theorem ev_after {t : TE} (h : Ev K t O ρ fun s O1 => ∃ O2 : Own, O2.Sublist O1 ∧ P s O2) : Ev K t O ρ P :=
  fun F H σ Q sm rr w k => h F H σ Q sm rr w fun v F' H' s O1 st vo ⟨O2, hs, p⟩ => k v F' H' s O2 (st.trans (Step.drop st.fh st.own hs)) vo p
theorem gm_tup2 {K : PySem.W.Frag} {n i j : Nat} : ∀ v σ H (Q Q' : L2.St → Hp → Prop), (∀ σ' H', Q σ' H' → Q' σ' H') → gTup K n (gCons (gName i) (gCons (gName j) gNil)) v σ H Q → gTup K n (gCons (gName i) (gCons (gName j) gNil)) v σ H Q' :=
  fun _ _ _ _ _ h ⟨a, xs, e, hs, hn, x, r, e2, y, r2, e3, e4, q⟩ => ⟨a, xs, e, hs, hn, x, r, e2, y, r2, e3, e4, h _ _ q⟩
theorem dI_get {ns : List Int} {i : Nat} {d : PyData} (h : (dI ns)[i]? = some d) : ∃ n, ns[i]? = some n ∧ d = .int n := by
  rw [List.getElem?_map] at h
  cases e : ns[i]? with
  | none => rw [e] at h; cases h
  | some f => rw [e] at h; exact ⟨f, rfl, (Option.some.inj h).symm⟩
theorem map_get {α β : Type} {f : α → β} {xs : List α} {i : Nat} {d : β} (h : (xs.map f)[i]? = some d) : ∃ n, xs[i]? = some n ∧ d = f n := by
  rw [List.getElem?_map] at h
  cases e : xs[i]? with
  | none => rw [e] at h; cases h
  | some f => rw [e] at h; exact ⟨f, rfl, (Option.some.inj h).symm⟩
theorem ev_lcItems {g : TG} {te : TE} {vs : List Nat} {j i : Nat} {p : Addr} {kds : List (Key × PyData)} (hg : GOnly g vs) (hv : ρ[j]? = some (.v (.ref p))) (ho : O[i]? = some (p, .dK kds))
    (h : ∃ I : Nat → List PyData → Own → Prop, I 0 [] (O.eraseIdx i) ∧
      (∀ m k d acc O', kds[m]? = some (k, d) → I m acc O' → Gw K g (.d (.tuple [kD k, d])) O' (wipeS ρ vs) fun ρ2 O2 => Ev K te O2 ρ2 fun y O4 => ∃ e, y = .d e ∧ acc.length < sizeLine ∧ I (m + 1) (acc ++ [e]) O4) ∧
      (∀ acc O' q, I kds.length acc O' → P (.v (.ref q)) ((p, .dK kds) :: (q, .lst acc) :: O'))) : Ev K (tLockE (tLc (iItems (tVar j)) g tYes te vs)) O ρ P :=
  fun F H σ Q sm rr w k => by
    obtain ⟨I, i0, turn, fin⟩ := h
    obtain ⟨hF, u, hH, kvs, eu, hkv⟩ := own_get w ho
    subst eu
    have hlen := kvd_len hkv
    refine ⟨p, .dK kvs, hH, True.intro, fun od => ?_⟩
    have hn := not_erased w.nd ho
    have sml : Same F (upd H p (.frz od (.dK kvs))) := fun b o eb => by
      have hne : b ≠ p := fun z => by rw [z, hF] at eb; cases eb
      rw [upd_ne hne]; exact sm b o eb
    have wl : OwnOk K F (upd H p (.frz od (.dK kvs))) (O.eraseIdx i) := by
      refine ⟨List.Nodup.sublist (List.Sublist.map _ (List.eraseIdx_sublist _ _)) w.nd, fun q c hq => ?_⟩
      obtain ⟨q1, o, q2, q3⟩ := w.at_ q c (List.mem_of_mem_eraseIdx hq)
      have hne : q ≠ p := fun z => hn (by rw [← z]; exact List.mem_map.mpr ⟨_, hq, rfl⟩)
      exact ⟨q1, o, by rw [upd_ne hne]; exact q2, q3⟩
    obtain ⟨xv, e1, e2⟩ := rr.get hv (fun z => nomatch z)
    have exv : xv = .ref p := e2
    subst exv
    refine ⟨_, e1, p, od, kvs, rfl, upd_same, fun D hD => ?_⟩
    have stD := Step.newO (o := .lst []) (c := .lst []) sml wl hD ⟨[], rfl, .nil⟩
    refine ⟨fun m n H' => n = kds.length - m ∧ m ≤ kds.length ∧ ∃ F' acc O', Step K (O.eraseIdx i) F (upd H p (.frz od (.dK kvs))) ((D, .lst acc) :: O') F' H' ∧ I m acc O', ⟨kds.length, by omega, Nat.zero_le _, F, [], _, stD, i0⟩, ?_⟩
    rintro m n H' ⟨rfl, hm, F', acc, O', st, inv⟩
    obtain ⟨kp1, kp2⟩ := st.kp p _ upd_same hn
    by_cases hlt : m < kds.length
    · refine .inr ⟨⟨kp1, by omega⟩, fun H2 => ∃ F2 acc2 O2, Step K (O.eraseIdx i) F (upd H p (.frz od (.dK kvs))) ((D, .lst acc2) :: O2) F2 H2 ∧ I (m + 1) acc2 O2, fun H2 ⟨F2, acc2, O2, a, b⟩ => ⟨kds.length - (m + 1), by omega, rfl, hlt, F2, acc2, O2, a, b⟩, fun x H3 y => ?_⟩
      obtain ⟨kk, d, F3, hd, stt, hx⟩ := items_turn st.fh st.own (hkv.mono st.ff) y
      have pm : ∀ (U : Own) (a : List PyData), ((D, Oc.lst a) :: U).Perm (U ++ [(D, .lst a)]) := fun U a => List.perm_append_comm (l₁ := [(D, Oc.lst a)]) (l₂ := U)
      have wP := stt.own.perm (pm O' acc)
      have s0 := (st.trans stt).trans (Step.perm stt.fh stt.own (pm O' acc))
      have rP : ROk K F3 (wipe σ vs) (wipeS ρ vs) := (rr.wipe vs).mono s0.ff
      have idem : wipe (wipe σ vs) vs = wipe σ vs := wipe_ext (wipe_length σ vs) fun i hi => wipe_out hi
      have goal := hg x (wipe σ vs) H3 (fun σ2 H2 => tYes σ2 H2 fun b H3 => if b = true then te σ2 H3 fun y H4 => ∃ acc, H4 D = some (.lst acc) ∧ acc.length < sizeLine ∧ (fun H2 => ∃ F2 acc2 O2, Step K (O.eraseIdx i) F (upd H p (.frz od (.dK kvs))) ((D, .lst acc2) :: O2) F2 H2 ∧ I (m + 1) acc2 O2) (upd H4 D (.lst (acc ++ [y]))) else (fun H2 => ∃ F2 acc2 O2, Step K (O.eraseIdx i) F (upd H p (.frz od (.dK kvs))) ((D, .lst acc2) :: O2) F2 H2 ∧ I (m + 1) acc2 O2) H3) (by
        refine turn m kk d acc O' hd inv F3 H3 (wipe σ vs) x _ stt.fh rP (wP.sub (List.sublist_append_left _ _)) hx fun σ2 F4 H4 ρ2 O2 st4 rr4 q => ?_
        have s4 := s0.trans (Step.frame wP st4)
        show te σ2 H4 _
        refine q F4 H4 σ2 _ st4.fh rr4 st4.own fun y F6 H6 s O4 st6 vy ⟨d', es, hl2, inv'⟩ => ?_
        subst es
        have s6 := s4.trans (Step.frame s4.own st6)
        have s7 := s6.trans (Step.perm s6.fh s6.own (pm O4 acc).symm)
        obtain ⟨hF6, o, hD6, va, eo, hva⟩ := own_get (i := 0) (p := D) (c := .lst acc) s7.own rfl
        subst eo
        refine ⟨va, hD6, by rw [dpAll_len hva]; exact hl2, F6, acc ++ [d'], O4, ?_, inv'⟩
        exact s7.trans (Step.write (i := 0) (c := .lst acc) s7.fh s7.own rfl ⟨va ++ [y], rfl, dpAll_append hva (.cons vy .nil)⟩))
      rw [idem] at goal
      exact goal
    · have ei : m = kds.length := by omega
      subst ei
      obtain ⟨q1, q2⟩ := Step.unlock sm w ho hH ⟨kvs, rfl, hkv⟩ st
      exact .inl ⟨⟨kp1, by omega⟩, q1, k _ F' _ (.v (.ref D)) _ q2 rfl (fin acc O' D inv)⟩
/-- x = [.. for .. in d.items()] -/
theorem st_lockSet {te : TE} {i : Nat} {P : Pst} (h : Ev K (tLockE te) O ρ fun s O' => P.nx (ρ.set i s) O') : StW K (tLock (tAsg te (gName i))) O ρ P :=
  fun F H σ D sm rr w e => by
    obtain ⟨d, u, h1, h2, h3⟩ := h F H σ (fun v H' => D.nx (σ.set i (some v)) H') sm rr w fun v F' H' s O' st vo p => e.nx _ F' H' _ O' st ((rr.mono st.ff).set vo i) p
    exact ⟨d, u, h1, h2, h3⟩
/-- list + list, both own -/
theorem ev_catO {ta tb : TE} (h : Ev K ta O ρ fun a O1 => ∃ p, a = .v (.ref p) ∧ Ev K tb O1 ρ fun b O2 => ∃ (q : Addr) (i j : Nat) (ds es : List PyData), b = .v (.ref q) ∧ O2[i]? = some (p, Oc.lst ds) ∧ O2[j]? = some (q, Oc.lst es) ∧ ds.length + es.length ≤ sizeLine ∧ ∀ r, P (.v (.ref r)) ((r, .lst (ds ++ es)) :: O2)) : Ev K (tOp rCat ta tb) O ρ P :=
  ev_op h fun a O1 ⟨p, ea, hb⟩ => hb.mono fun b O2 ⟨q, i, j, ds, es, eb, h1, h2, hz, hp⟩ F H σ x y Q sm rr w hx hy k => by
    subst ea
    subst eb
    have ex : x = .ref p := hx
    have ey : y = .ref q := hy
    subst ex
    subst ey
    obtain ⟨_, o1, hH1, vs1, e1, d1⟩ := own_get w h1
    obtain ⟨_, o2, hH2, vs2, e2, d2⟩ := own_get w h2
    subst e1
    subst e2
    refine ⟨p, q, vs1, vs2, rfl, rfl, hH1, hH2, by rw [dpAll_len d1, dpAll_len d2]; exact hz, fun r hr => ?_⟩
    have st := Step.newO (o := .lst (vs1 ++ vs2)) (c := .lst (ds ++ es)) sm w hr ⟨_, rfl, dpAll_append d1 d2⟩
    exact k _ F _ (.v (.ref r)) _ st rfl (hp r)
end
end AL

namespace S18
open PySem PySem.Spec PyProof.Rows L2 AL
/-! ### what the defs compute -/
def fr (a b : Int) : Int × Int := (a / Int.gcd a b, b / Int.gcd a b)
def prD (p : Int × Int) : PyData := .tuple [.int p.1, .int p.2]
def gaps (lap : Int) (ts : List Int) : List Int := (ts.zip (ts.drop 1 ++ [ts.getD 0 0])).map fun p => if 1 < ts.length then (p.2 - p.1) % lap else lap
def sq (gs : List Int) : Int := (gs.map fun g => g * (g - 1)).sum
def meanP (lap : Int) (ts : List Int) : Int × Int := fr (sq (gaps lap ts)) (2 * lap)
def minI : List Int → Int
  | [] => 0
  | x :: xs => xs.foldl min x
def maxI : List Int → Int
  | [] => 0
  | x :: xs => xs.foldl max x
def waitBy (lap : Int) (ts : List Int) (m : Int) : Int := minI (ts.map fun t => (t - m) % lap)
theorem foldl_min_le : ∀ (xs : List Int) (x : Int), xs.foldl min x ≤ x ∧ (∀ y ∈ xs, xs.foldl min x ≤ y) ∧ (xs.foldl min x = x ∨ xs.foldl min x ∈ xs)
  | [], x => ⟨Int.le_refl x, fun _ h => (by cases h), .inl rfl⟩
  | a :: xs, x => by
    obtain ⟨h1, h2, h3⟩ := foldl_min_le xs (min x a)
    show xs.foldl min (min x a) ≤ x ∧ (∀ y ∈ a :: xs, xs.foldl min (min x a) ≤ y) ∧ (xs.foldl min (min x a) = x ∨ xs.foldl min (min x a) ∈ a :: xs)
    refine ⟨by omega, fun y hy => ?_, ?_⟩
    · rcases List.mem_cons.mp hy with e | hy
      · rw [e]; omega
      · exact h2 y hy
    · rcases h3 with h3 | h3
      · by_cases h : x ≤ a
        · left; rw [h3]; omega
        · right; rw [h3, Int.min_eq_right (by omega)]; exact List.mem_cons_self
      · exact .inr (List.mem_cons_of_mem _ h3)
theorem foldl_max_le : ∀ (xs : List Int) (x : Int), x ≤ xs.foldl max x ∧ (∀ y ∈ xs, y ≤ xs.foldl max x) ∧ (xs.foldl max x = x ∨ xs.foldl max x ∈ xs)
  | [], x => ⟨Int.le_refl x, fun _ h => (by cases h), .inl rfl⟩
  | a :: xs, x => by
    obtain ⟨h1, h2, h3⟩ := foldl_max_le xs (max x a)
    show x ≤ xs.foldl max (max x a) ∧ (∀ y ∈ a :: xs, y ≤ xs.foldl max (max x a)) ∧ (xs.foldl max (max x a) = x ∨ xs.foldl max (max x a) ∈ a :: xs)
    refine ⟨by omega, fun y hy => ?_, ?_⟩
    · rcases List.mem_cons.mp hy with e | hy
      · rw [e]; omega
      · exact h2 y hy
    · rcases h3 with h3 | h3
      · by_cases h : a ≤ x
        · left; rw [h3]; omega
        · right; rw [h3, Int.max_eq_right (by omega)]; exact List.mem_cons_self
      · exact .inr (List.mem_cons_of_mem _ h3)
theorem minI_spec {ns : List Int} (h : ns ≠ []) : minI ns ∈ ns ∧ ∀ y ∈ ns, minI ns ≤ y := by
  cases ns with
  | nil => exact absurd rfl h
  | cons x xs =>
    obtain ⟨h1, h2, h3⟩ := foldl_min_le xs x
    refine ⟨?_, fun y hy => ?_⟩
    · rcases h3 with h3 | h3
      · show xs.foldl min x ∈ x :: xs; rw [h3]; exact List.mem_cons_self
      · exact List.mem_cons_of_mem _ h3
    · rcases List.mem_cons.mp hy with e | hy
      · rw [e]; exact h1
      · exact h2 y hy
theorem maxI_spec {ns : List Int} (h : ns ≠ []) : maxI ns ∈ ns ∧ ∀ y ∈ ns, y ≤ maxI ns := by
  cases ns with
  | nil => exact absurd rfl h
  | cons x xs =>
    obtain ⟨h1, h2, h3⟩ := foldl_max_le xs x
    refine ⟨?_, fun y hy => ?_⟩
    · rcases h3 with h3 | h3
      · show xs.foldl max x ∈ x :: xs; rw [h3]; exact List.mem_cons_self
      · exact List.mem_cons_of_mem _ h3
    · rcases List.mem_cons.mp hy with e | hy
      · rw [e]; exact h1
      · exact h2 y hy
theorem minI_eq {ns : List Int} {m : Int} (h1 : m ∈ ns) (h2 : ∀ y ∈ ns, m ≤ y) : m = minI ns := by
  obtain ⟨a, b⟩ := minI_spec (List.ne_nil_of_mem h1)
  have := b m h1
  have := h2 _ a
  omega
theorem maxI_eq {ns : List Int} {m : Int} (h1 : m ∈ ns) (h2 : ∀ y ∈ ns, y ≤ m) : m = maxI ns := by
  obtain ⟨a, b⟩ := maxI_spec (List.ne_nil_of_mem h1)
  have := b m h1
  have := h2 _ a
  omega
theorem gcd_pos {a b : Int} (hb : 0 < b) : 0 < (Int.gcd a b : Int) := by
  have h := Int.gcd_pos_of_ne_zero_right a (show b ≠ 0 by omega)
  omega
theorem gcd_le {a b : Int} (hb : 0 < b) : (Int.gcd a b : Int) ≤ b := Int.gcd_le_right a hb
/-- times as they should be -/
structure Good (lap : Int) (ts : List Int) : Prop where
  l1 : 1 ≤ lap
  l2 : lap ≤ 1440
  ne : 0 < ts.length
  le : ts.length ≤ 60
  rg : ∀ t ∈ ts, 0 ≤ t ∧ t < lap
  asc : ts.Pairwise (· < ·)
/-! ### cuts -/
theorem cut_from (ds : List PyData) (k : Nat) : AL.cutD ds (some (k : Int)) none = ds.drop k := by
  unfold AL.cutD
  rw [List.take_of_length_le (by rw [List.length_drop]; exact Nat.le_refl _)]
  show ds.drop (if (k : Int) < 0 then ((k : Int) + ds.length).toNat else min (k : Int).toNat ds.length) = _
  rw [if_neg (by omega)]
  have e : (k : Int).toNat = k := by omega
  rw [e]
  by_cases h : k ≤ ds.length
  · rw [Nat.min_eq_left h]
  · rw [Nat.min_eq_right (by omega), List.drop_of_length_le (Nat.le_refl _), List.drop_of_length_le (by omega)]
theorem cut_to (ds : List PyData) (k : Nat) : AL.cutD ds none (some (k : Int)) = ds.take k := by
  unfold AL.cutD
  show (ds.drop 0).take ((if (k : Int) < 0 then ((k : Int) + ds.length).toNat else min (k : Int).toNat ds.length) - 0) = _
  rw [if_neg (by omega), List.drop_zero]
  have e : (k : Int).toNat = k := by omega
  rw [e, Nat.sub_zero]
  by_cases h : k ≤ ds.length
  · rw [Nat.min_eq_left h]
  · rw [Nat.min_eq_right (by omega), List.take_of_length_le (Nat.le_refl _), List.take_of_length_le (by omega)]
theorem at_dI {ns : List Int} {i : Int} (h0 : 0 ≤ i) (h1 : i < ns.length) : L2.atI (AL.dI ns) i = some (.int (ns.getD i.toNat 0)) := by
  unfold L2.atI
  have e : L2.ixN (AL.dI ns).length i = some i.toNat := by
    unfold L2.ixN
    rw [List.length_map, if_pos (by omega), if_pos (by omega)]
  rw [e]
  show (AL.dI ns)[i.toNat]? = _
  rw [List.getElem?_map, List.getElem?_eq_getElem (by omega), List.getD_eq_getElem?_getD, List.getElem?_eq_getElem (by omega)]
  rfl
theorem dI_len (ns : List Int) : (AL.dI ns).length = ns.length := List.length_map ..
theorem dI_drop (ns : List Int) (k : Nat) : (AL.dI ns).drop k = AL.dI (ns.drop k) := (List.map_drop ..).symm
theorem dI_take (ns : List Int) (k : Nat) : (AL.dI ns).take k = AL.dI (ns.take k) := (List.map_take ..).symm
theorem dI_app (ns ms : List Int) : AL.dI ns ++ AL.dI ms = AL.dI (ns ++ ms) := List.map_append.symm
theorem dI_snoc (ns : List Int) (m : Int) : AL.dI ns ++ [.int m] = AL.dI (ns ++ [m]) := dI_app ns [m]
theorem cut_from1 (ns : List Int) : AL.cutD (AL.dI ns) (some 1) none = AL.dI (ns.drop 1) := (cut_from (AL.dI ns) 1).trans (dI_drop ns 1)
theorem zip_dI (a b : List Int) : (((AL.dI a).zip (AL.dI b)).map fun p => PyData.tuple [p.1, p.2]) = (a.zip b).map fun p => PyData.tuple [.int p.1, .int p.2] := by
  show ((a.map PyData.int).zip (b.map PyData.int)).map _ = _
  rw [List.zip_map, List.map_map]
  rfl
theorem enum_dI (a : List Int) : ((AL.dI a).zipIdx.map fun p => PyData.tuple [.int (p.2 : Nat), p.1]) = a.zipIdx.map fun p => PyData.tuple [.int (p.2 : Nat), .int p.1] := by
  show ((a.map PyData.int).zipIdx.map _) = _
  rw [List.zipIdx_map, List.map_map]
  rfl
theorem gaps_len (lap : Int) (ts : List Int) (h : 0 < ts.length) : (gaps lap ts).length = ts.length := by
  unfold gaps
  rw [List.length_map, List.length_zip, List.length_append, List.length_drop]
  simp
  omega
theorem cmul_b (x : Int) (b : Bool) : L2.CMul x (if b = true then 1 else 0) := by
  refine .inr ?_
  cases b <;> decide
end S18

namespace S18
open PySem
open AL (rng rng_mem rng_len dI)
def worst (lap : Int) (ts : List Int) : Int × Int := (maxI (gaps lap ts) - 1, minI ((((gaps lap ts).zip ts).filter fun p => decide (p.1 = maxI (gaps lap ts))).map fun p => (p.2 + 1) % lap))
def told (lap : Int) (ts : List Int) : List Int := (rng (maxI (gaps lap ts)).toNat).map fun k => (((gaps lap ts).filter fun g => decide (g > k)).length : Int)
def halfGo (a b lap : Int) : List Int → Int → Int → Int
  | [], _, _ => lap - 1
  | c :: cs, n, tot => if (tot + c) * b ≥ a * lap then n else halfGo a b lap cs (n + 1) (tot + c)
def half (lap : Int) (ts : List Int) (a b : Int) : Int := halfGo a b lap (told lap ts) 0 0
def ltP (p q : Int × Int) : Prop := p.1 * q.2 < q.1 * p.2
def insI (x : Int) : List Int → List Int
  | [] => [x]
  | y :: ys => if x ≤ y then x :: y :: ys else y :: insI x ys
def sortI (ns : List Int) : List Int := ns.foldr insI []
def uni (lap : Int) (ns : List Int) : List Int := (rng lap.toNat).filter fun t => decide (t ∈ ns)
def evens (lap many : Int) : List Int := (rng many.toNat).map fun k => k * lap / many
def later (lap : Int) (ts : List Int) (s : Int) : List Int := ts.map fun t => (t + s) % lap
def changeP (lap : Int) (one other : List Int) (change : Int) : Int × Int := fr ((one.map fun t => waitBy lap other (t + change)).sum) one.length
def free (lap : Int) (ts : List Int) : List Int := (rng lap.toNat).filter fun m => !decide (m ∈ ts)
/-! ### sorting -/
theorem ins_perm (x : Int) : ∀ ys : List Int, (insI x ys).Perm (x :: ys)
  | [] => List.Perm.refl _
  | y :: ys => by
    unfold insI
    split
    · exact List.Perm.refl _
    · exact ((ins_perm x ys).cons y).trans (List.Perm.swap x y ys)
theorem ins_sorted (x : Int) : ∀ ys : List Int, ys.Pairwise (· ≤ ·) → (insI x ys).Pairwise (· ≤ ·)
  | [], _ => List.pairwise_singleton _ _
  | y :: ys, h => by
    obtain ⟨h1, h2⟩ := List.pairwise_cons.mp h
    unfold insI
    split
    · refine List.pairwise_cons.mpr ⟨fun z hz => ?_, h⟩
      rcases List.mem_cons.mp hz with e | hz
      · rw [e]; assumption
      · have := h1 z hz; omega
    · refine List.pairwise_cons.mpr ⟨fun z hz => ?_, ins_sorted x ys h2⟩
      rcases List.mem_cons.mp ((ins_perm x ys).mem_iff.mp hz) with e | hz
      · rw [e]; omega
      · exact h1 z hz
theorem sortI_perm : ∀ ns : List Int, (sortI ns).Perm ns
  | [] => List.Perm.refl _
  | n :: ns => (ins_perm n (sortI ns)).trans ((sortI_perm ns).cons n)
theorem sortI_sorted : ∀ ns : List Int, (sortI ns).Pairwise (· ≤ ·)
  | [] => List.Pairwise.nil
  | n :: ns => ins_sorted n (sortI ns) (sortI_sorted ns)
theorem sorted_one : ∀ (l m : List Int), l.Perm m → l.Pairwise (· ≤ ·) → m.Pairwise (· ≤ ·) → l = m
  | [], m, h, _, _ => (List.nil_perm.mp h).symm
  | x :: xs, [], h, _, _ => absurd (List.perm_nil.mp h) (fun z => by cases z)
  | x :: xs, y :: ys, h, h1, h2 => by
    obtain ⟨a1, a2⟩ := List.pairwise_cons.mp h1
    obtain ⟨b1, b2⟩ := List.pairwise_cons.mp h2
    have e : x = y := by
      have hx : x ∈ y :: ys := h.mem_iff.mp List.mem_cons_self
      have hy : y ∈ x :: xs := h.mem_iff.mpr List.mem_cons_self
      rcases List.mem_cons.mp hx with q | q
      · exact q
      · rcases List.mem_cons.mp hy with r | r
        · exact r.symm
        · have := a1 y r
          have := b1 x q
          omega
    subst e
    rw [sorted_one xs ys (List.Perm.cons_inv h) a2 b2]
theorem sortI_eq {ns ns' : List Int} (h : ns'.Perm ns) (hs : ns'.Pairwise (· ≤ ·)) : ns' = sortI ns := sorted_one _ _ (h.trans (sortI_perm ns).symm) hs (sortI_sorted ns)
theorem ssorted_one : ∀ (l m : List Int), (∀ k, k ∈ l ↔ k ∈ m) → l.Pairwise (· < ·) → m.Pairwise (· < ·) → l = m
  | [], [], _, _, _ => rfl
  | [], y :: ys, h, _, _ => absurd ((h y).mpr List.mem_cons_self) List.not_mem_nil
  | x :: xs, [], h, _, _ => absurd ((h x).mp List.mem_cons_self) List.not_mem_nil
  | x :: xs, y :: ys, h, h1, h2 => by
    obtain ⟨a1, a2⟩ := List.pairwise_cons.mp h1
    obtain ⟨b1, b2⟩ := List.pairwise_cons.mp h2
    have e : x = y := by
      rcases List.mem_cons.mp ((h x).mp List.mem_cons_self) with q | q
      · exact q
      · rcases List.mem_cons.mp ((h y).mpr List.mem_cons_self) with r | r
        · exact r.symm
        · have := a1 y r
          have := b1 x q
          omega
    subst e
    rw [ssorted_one xs ys (fun k => ?_) a2 b2]
    constructor
    · intro hk
      rcases List.mem_cons.mp ((h k).mp (List.mem_cons_of_mem _ hk)) with q | q
      · have := a1 k hk; omega
      · exact q
    · intro hk
      rcases List.mem_cons.mp ((h k).mpr (List.mem_cons_of_mem _ hk)) with q | q
      · have := b1 k hk; omega
      · exact q
theorem rng_sorted (n : Nat) : (rng n).Pairwise (· < ·) := by
  unfold rng
  refine List.pairwise_map.mpr ((List.pairwise_lt_range (n := n)).imp fun h => ?_)
  omega
theorem uni_mem {lap : Int} {ns : List Int} (h : ∀ t ∈ ns, 0 ≤ t ∧ t < lap) (k : Int) : k ∈ uni lap ns ↔ k ∈ ns := by
  unfold uni
  rw [List.mem_filter, rng_mem, decide_eq_true_eq]
  constructor
  · exact fun z => z.2
  · intro hk
    have := h k hk
    exact ⟨by omega, hk⟩
theorem uni_sorted (lap : Int) (ns : List Int) : (uni lap ns).Pairwise (· < ·) := (rng_sorted _).filter _
theorem uni_eq {lap : Int} {ns ns' : List Int} (h : ∀ t ∈ ns, 0 ≤ t ∧ t < lap) (hm : ∀ k, k ∈ ns' ↔ k ∈ ns) (hs : ns'.Pairwise (· < ·)) : ns' = uni lap ns :=
  ssorted_one _ _ (fun k => (hm k).trans (uni_mem h k).symm) hs (uni_sorted lap ns)
/-! ### bounds -/
theorem gap_bd {lap : Int} {ts : List Int} (h : 0 < lap) : ∀ g ∈ gaps lap ts, 0 ≤ g ∧ g ≤ lap := by
  intro g hg
  obtain ⟨p, _, e⟩ := List.mem_map.mp hg
  rw [← e]
  split
  · have h1 := Int.emod_nonneg (p.2 - p.1) (show lap ≠ 0 by omega)
    have h2 := Int.emod_lt_of_pos (p.2 - p.1) h
    omega
  · omega
theorem gaps_ne {lap : Int} {ts : List Int} (h : 0 < ts.length) : gaps lap ts ≠ [] := fun e => by
  have := gaps_len lap ts h
  rw [e] at this
  simp at this
  omega
theorem fr_den {a b : Int} (hb : 0 < b) : 0 < (fr a b).2 ∧ (fr a b).2 ≤ b := by
  have h1 := gcd_pos (a := a) hb
  have h2 := gcd_le (a := a) hb
  have hd : (Int.gcd a b : Int) ∣ b := Int.gcd_dvd_right ..
  obtain ⟨k, hk⟩ := hd
  show 0 < b / (Int.gcd a b : Int) ∧ b / (Int.gcd a b : Int) ≤ b
  generalize (Int.gcd a b : Int) = g at *
  have e : b / g = k := by rw [hk]; exact Int.mul_ediv_cancel_left k (by omega)
  rw [e]
  have hk0 : 0 < k := by
    rcases Int.lt_trichotomy 0 k with z | z | z
    · exact z
    · rw [← z] at hk; simp at hk; omega
    · have := Int.mul_neg_of_pos_of_neg h1 z
      omega
  refine ⟨hk0, ?_⟩
  rw [hk]
  have := Int.mul_le_mul_of_nonneg_right (show (1 : Int) ≤ g by omega) (show (0 : Int) ≤ k by omega)
  omega
theorem meanP_den {lap : Int} (ts : List Int) (h : 1 ≤ lap) (h2 : lap ≤ 1440) : 0 < (meanP lap ts).2 ∧ (meanP lap ts).2 ≤ 2880 := by
  have := fr_den (a := sq (gaps lap ts)) (b := 2 * lap) (by omega)
  unfold meanP
  omega
theorem cmul_r {i j : Int} (h : 0 < j) (h2 : j < 2 ^ 64) : L2.CMul i j := .inr ⟨by omega, h2⟩
theorem enum_get {xs : List Int} {i : Nat} {x : PyData} (h : (xs.zipIdx.map fun p => PyData.tuple [.int (p.2 : Nat), .int p.1])[i]? = some x) : ∃ c, xs[i]? = some c ∧ x = .tuple [.int (i : Nat), .int c] := by
  rw [List.getElem?_map, List.getElem?_zipIdx] at h
  cases e : xs[i]? with
  | none => rw [e] at h; cases h
  | some c =>
    rw [e] at h
    refine ⟨c, rfl, ?_⟩
    have h := Option.some.inj h
    rw [← h, Nat.zero_add]
theorem take_sum_succ {xs : List Int} {i : Nat} {c : Int} (h : xs[i]? = some c) : (xs.take (i + 1)).sum = (xs.take i).sum + c := by
  rw [List.take_add_one, h, List.sum_append]
  simp
theorem drop_cons {xs : List Int} {i : Nat} {c : Int} (h : xs[i]? = some c) : xs.drop i = c :: xs.drop (i + 1) := by
  obtain ⟨hi, e⟩ := List.getElem?_eq_some_iff.mp h
  rw [List.drop_eq_getElem_cons hi, e]
theorem evens_len (lap many : Int) : (evens lap many).length = many.toNat := by
  unfold evens
  rw [List.length_map, rng_len]
/-! ### the least -/
theorem ltP_trans {p q r : Int × Int} (hp : 0 < p.2) (hq : 0 < q.2) (hr : 0 < r.2) (h1 : ¬ ltP r q) (h2 : ltP p q) : ¬ ltP r p := by
  unfold ltP at *
  intro h3
  -- r < p < q
  have a : r.1 * p.2 * q.2 < p.1 * r.2 * q.2 := Int.mul_lt_mul_of_pos_right h3 hq
  have b : p.1 * q.2 * r.2 < q.1 * p.2 * r.2 := Int.mul_lt_mul_of_pos_right h2 hr
  have c : q.1 * r.2 ≤ r.1 * q.2 := by omega
  have d : q.1 * r.2 * p.2 ≤ r.1 * q.2 * p.2 := Int.mul_le_mul_of_nonneg_right c (by omega)
  have e1 : p.1 * q.2 * r.2 = p.1 * r.2 * q.2 := by rw [Int.mul_assoc, Int.mul_comm q.2, ← Int.mul_assoc]
  have e2 : q.1 * p.2 * r.2 = q.1 * r.2 * p.2 := by rw [Int.mul_assoc, Int.mul_comm p.2, ← Int.mul_assoc]
  have e3 : r.1 * p.2 * q.2 = r.1 * q.2 * p.2 := by rw [Int.mul_assoc, Int.mul_comm p.2, ← Int.mul_assoc]
  omega
theorem ltP_irrefl (p : Int × Int) : ¬ ltP p p := Int.lt_irrefl _
/-- the first of the least -/
def Least (means : List (Int × Int)) (j : Nat) (m : Int × Int) : Prop := means[j]? = some m ∧ (∀ q ∈ means, ¬ ltP q m) ∧ ∀ i : Nat, i < j → ∀ q, means[i]? = some q → ltP m q
theorem mem_take_succ {α : Type} {xs : List α} {i : Nat} {x q : α} (h : xs[i]? = some x) (hq : q ∈ xs.take (i + 1)) : q ∈ xs.take i ∨ q = x := by
  rw [List.take_add_one, h] at hq
  rcases List.mem_append.mp hq with z | z
  · exact .inl z
  · exact .inr (List.mem_singleton.mp z)
theorem enum_getP {xs : List (Int × Int)} {i : Nat} {x : PyData} (h : ((xs.map prD).zipIdx.map fun p => PyData.tuple [.int (p.2 : Nat), p.1])[i]? = some x) : ∃ c, xs[i]? = some c ∧ x = .tuple [.int (i : Nat), prD c] := by
  rw [List.getElem?_map, List.getElem?_zipIdx, List.getElem?_map] at h
  cases e : xs[i]? with
  | none => rw [e] at h; cases h
  | some c =>
    rw [e] at h
    refine ⟨c, rfl, ?_⟩
    have h := Option.some.inj h
    rw [← h, Nat.zero_add]
theorem later_len (lap : Int) (ts : List Int) (s : Int) : (later lap ts s).length = ts.length := List.length_map ..
theorem later_rg {lap : Int} (h : 0 < lap) (ts : List Int) (s : Int) : ∀ t ∈ later lap ts s, 0 ≤ t ∧ t < lap := by
  intro t ht
  obtain ⟨u, _, rfl⟩ := List.mem_map.mp ht
  exact ⟨Int.emod_nonneg _ (by omega), Int.emod_lt_of_pos _ h⟩
theorem uni_len (lap : Int) (ns : List Int) : (uni lap ns).length ≤ lap.toNat := by
  have h := List.length_filter_le (fun t => decide (t ∈ ns)) (rng lap.toNat)
  rw [rng_len] at h
  exact h
theorem ltP_tr {p q r : Int × Int} (hp : 0 < p.2) (hq : 0 < q.2) (hr : 0 < r.2) (h1 : ltP p q) (h2 : ltP q r) : ltP p r := by
  unfold ltP at *
  have a : p.1 * q.2 * r.2 < q.1 * p.2 * r.2 := Int.mul_lt_mul_of_pos_right h1 hr
  have b : q.1 * r.2 * p.2 < r.1 * q.2 * p.2 := Int.mul_lt_mul_of_pos_right h2 hp
  have e1 : p.1 * q.2 * r.2 = p.1 * r.2 * q.2 := by rw [Int.mul_assoc, Int.mul_comm q.2, ← Int.mul_assoc]
  have e2 : q.1 * p.2 * r.2 = q.1 * r.2 * p.2 := by rw [Int.mul_assoc, Int.mul_comm p.2, ← Int.mul_assoc]
  have e3 : r.1 * q.2 * p.2 = r.1 * p.2 * q.2 := by rw [Int.mul_assoc, Int.mul_comm q.2, ← Int.mul_assoc]
  exact Int.lt_of_mul_lt_mul_right (a := q.2) (by omega) (by omega)
theorem ltP_le {c m q : Int × Int} (hc : 0 < c.2) (hm : 0 < m.2) (hq : 0 < q.2) (h1 : ltP c m) (h2 : ¬ ltP q m) : ltP c q := by
  unfold ltP at *
  have a : c.1 * m.2 * q.2 < m.1 * c.2 * q.2 := Int.mul_lt_mul_of_pos_right h1 hq
  have b : m.1 * q.2 * c.2 ≤ q.1 * m.2 * c.2 := Int.mul_le_mul_of_nonneg_right (by omega) (by omega)
  have e1 : c.1 * m.2 * q.2 = c.1 * q.2 * m.2 := by rw [Int.mul_assoc, Int.mul_comm m.2, ← Int.mul_assoc]
  have e2 : m.1 * c.2 * q.2 = m.1 * q.2 * c.2 := by rw [Int.mul_assoc, Int.mul_comm c.2, ← Int.mul_assoc]
  have e3 : q.1 * m.2 * c.2 = q.1 * c.2 * m.2 := by rw [Int.mul_assoc, Int.mul_comm m.2, ← Int.mul_assoc]
  exact Int.lt_of_mul_lt_mul_right (a := m.2) (by omega) (by omega)
theorem canAll_dI : ∀ ns : List Int, PyData.canLayAll0 (dI ns) = true
  | [] => rfl
  | n :: ns => by
    show (true && PyData.canLayAll0 (dI ns)) = true
    rw [canAll_dI ns]
    rfl
theorem depthAll_dI : ∀ ns : List Int, PyData.depthAll (dI ns) = 0
  | [] => rfl
  | n :: ns => by
    show max 0 (PyData.depthAll (dI ns)) = 0
    rw [depthAll_dI ns]
    rfl
theorem shaped_dI (ns : List Int) : PySem.SeqAt.shaped (.list (dI ns)) = true := by
  show (PyData.canLayAll0 (dI ns) && decide (PyData.depthAll (dI ns) + 1 ≤ 64)) = true
  rw [canAll_dI, depthAll_dI]
  rfl
/-! ### the law's pot -/
structure PotOk (n : Nat) (a b c : Int) : Prop where
  a0 : 0 ≤ a
  b0 : 0 ≤ b
  b1 : b < 2 ^ 61
  c0 : 0 ≤ c
  c1 : c ≤ n
theorem PotOk.mono {m n : Nat} {a b c : Int} (h : PotOk m a b c) (e : m ≤ n) : PotOk n a b c := ⟨h.a0, h.b0, h.b1, h.c0, by have := h.c1; omega⟩
theorem blend_bits {mu ad b c : Int} {n : Nat} (hm : 0 ≤ mu ∧ mu ≤ 2 ^ 19) (hd : 0 ≤ ad ∧ ad ≤ 2 ^ 19) (hb : 0 ≤ b) (hb1 : b < 2 ^ 61) (hc : 0 ≤ c) (hc1 : c ≤ n) (hn : n ≤ 2 ^ 40) : (Builtin.Int.intBits (b + mu * (c + 1) * (c + 1) + ad) : Int) ≤ 130 := by
  obtain ⟨hm1, hm2⟩ := hm
  obtain ⟨hd1, hd2⟩ := hd
  have h2 : c + 1 ≤ 2 ^ 41 := by omega
  have h1 : mu * (c + 1) ≤ 2 ^ 19 * 2 ^ 41 := Int.mul_le_mul hm2 h2 (by omega) (by omega)
  have h0 : 0 ≤ mu * (c + 1) := Int.mul_nonneg hm1 (by omega)
  have h3 : mu * (c + 1) * (c + 1) ≤ (2 ^ 19 * 2 ^ 41) * 2 ^ 41 := Int.mul_le_mul h1 h2 (by omega) (by omega)
  have h4 : 0 ≤ mu * (c + 1) * (c + 1) := Int.mul_nonneg h0 (by omega)
  have h5 : (b + mu * (c + 1) * (c + 1) + ad).natAbs < 2 ^ 130 := by
    generalize mu * (c + 1) * (c + 1) = y at *
    have h6 : (2 : Int) ^ 19 * 2 ^ 41 * 2 ^ 41 = 2 ^ 101 := by decide
    rw [h6] at h3
    omega
  have := PyProof.Rows.intBits_le h5
  omega
abbrev primes : List Int := [2147483647, 2147483629, 2147483587, 2147483579, 2147483563]
theorem primes_pos : ∀ k : Nat, k < 5 → 0 < primes.getD k 0 := by decide
theorem own_nn (x : Int) (m : Int) (hm : 0 < m) (b : Bool) : 0 ≤ x % m * (if b = true then 1 else 0) := by
  have h := Int.emod_nonneg x (show m ≠ 0 by omega)
  cases b
  · simp
  · simpa using h
/-! ### Euclid's going -/
theorem euc_step {x y A : Int} {i : Nat} (hx : 0 ≤ x) (hy : 0 < y) (h : (i = 0 ∧ x * y ≤ A) ∨ (1 ≤ i ∧ y < x ∧ x * y * 2 ^ (i - 1) ≤ A)) : x % y < y ∧ 0 ≤ x % y ∧ y * (x % y) * 2 ^ (i + 1 - 1) ≤ A := by
  have h1 := Int.emod_lt_of_pos x hy
  have h2 := Int.emod_nonneg x (show y ≠ 0 by omega)
  refine ⟨h1, h2, ?_⟩
  have hd := Int.emod_add_mul_ediv x y
  rcases h with ⟨rfl, h⟩ | ⟨hi, hyx, h⟩
  · have hle : x % y ≤ x := by
      have hq : 0 ≤ x / y := Int.ediv_nonneg hx (by omega)
      have := Int.mul_nonneg (show (0 : Int) ≤ y by omega) hq
      omega
    have := Int.mul_le_mul_of_nonneg_left hle (show (0 : Int) ≤ y by omega)
    rw [Int.mul_comm y x] at this
    show y * (x % y) * 2 ^ 0 ≤ A
    rw [Int.pow_zero, Int.mul_one]
    omega
  · have hq : 1 ≤ x / y := (Int.le_ediv_iff_mul_le hy).mpr (by omega)
    have hy2 : y ≤ y * (x / y) := by
      have := Int.mul_le_mul_of_nonneg_left hq (show (0 : Int) ≤ y by omega)
      omega
    have hh : 2 * (x % y) ≤ x := by omega
    have e : i + 1 - 1 = (i - 1) + 1 := by omega
    rw [e, Int.pow_succ]
    have p := Int.mul_le_mul_of_nonneg_left hh (show (0 : Int) ≤ y by omega)
    have p2 := Int.mul_le_mul_of_nonneg_right p (show (0 : Int) ≤ 2 ^ (i - 1) from Int.pow_nonneg (by decide))
    have e1 : y * (x % y) * (2 ^ (i - 1) * 2) = y * (2 * (x % y)) * 2 ^ (i - 1) := by
      rw [Int.mul_comm (2 ^ (i - 1)) 2, ← Int.mul_assoc, Int.mul_assoc y (x % y) 2, Int.mul_comm (x % y) 2]
    rw [e1]
    rw [Int.mul_comm y x] at p2
    omega
theorem euc_end {x y A : Int} (hy : 0 ≤ y) (h : y < x) (h2 : x * y * 2 ^ 199 ≤ A) (hA : A < 2 ^ 100) : y = 0 := by
  rcases Int.lt_or_eq_of_le hy with z | z
  · exfalso
    have h3 : 1 ≤ x * y := by
      have := Int.mul_pos (show 0 < x by omega) z
      omega
    have h4 := Int.mul_le_mul_of_nonneg_right h3 (show (0 : Int) ≤ 2 ^ 199 by decide)
    have h5 : (2 : Int) ^ 100 ≤ 1 * 2 ^ 199 := by decide
    omega
  · exact z.symm
theorem dI_erase : ∀ (ns : List Int) (j : Nat), (dI ns).eraseIdx j = dI (ns.eraseIdx j)
  | [], j => rfl
  | n :: ns, 0 => rfl
  | n :: ns, j + 1 => congrArg (PyData.int n :: ·) (dI_erase ns j)
theorem mem_erase {ns : List Int} {j : Nat} {m : Int} (h : m ∈ ns.eraseIdx j) : m ∈ ns := List.mem_of_mem_eraseIdx h
theorem strict_of {ns : List Int} (h : ns.Nodup) (h2 : ns.Pairwise (· ≤ ·)) : ns.Pairwise (· < ·) := by
  refine (List.Pairwise.and h h2).imp fun {a b} z => ?_
  omega
theorem keys_eq {lap : Int} {ns ks ks' : List Int} (hr : ∀ t ∈ ns, 0 ≤ t ∧ t < lap) (h1 : ks.Nodup) (h2 : ∀ k, k ∈ ks ↔ k ∈ ns) (h3 : ks'.Perm ks) (h4 : ks'.Pairwise (· ≤ ·)) : ks' = uni lap ns :=
  uni_eq hr (fun k => h3.mem_iff.trans (h2 k)) (strict_of (h3.nodup_iff.mpr h1) h4)
theorem nodup_len : ∀ (ks xs : List Int), ks.Nodup → (∀ k ∈ ks, k ∈ xs) → ks.length ≤ xs.length
  | [], xs, _, _ => Nat.zero_le _
  | k :: ks, xs, h, hs => by
    obtain ⟨h1, h2⟩ := List.nodup_cons.mp h
    have hk := hs k List.mem_cons_self
    have ih := nodup_len ks (xs.erase k) h2 fun m hm => (List.mem_erase_of_ne (fun e => h1 (by rw [← e]; exact hm))).mpr (hs m (List.mem_cons_of_mem _ hm))
    have e := List.length_erase_of_mem hk
    have := List.length_pos_of_mem hk
    show ks.length + 1 ≤ xs.length
    omega
theorem uni_good {lap : Int} {xs : List Int} (h1 : 1 ≤ lap) (h2 : lap ≤ 1440) (h3 : 0 < xs.length) (h4 : xs.length ≤ 60) (h5 : ∀ t ∈ xs, 0 ≤ t ∧ t < lap) : Good lap (uni lap xs) ∧ (uni lap xs).length ≤ xs.length := by
  have hm := uni_mem h5
  have hs := uni_sorted lap xs
  have hl : (uni lap xs).length ≤ xs.length := nodup_len _ _ (hs.imp fun h => by omega) fun k hk => (hm k).mp hk
  refine ⟨⟨h1, h2, List.length_pos_of_mem ((hm xs[0]).mpr (List.getElem_mem h3)), by omega, fun t ht => h5 t ((hm t).mp ht), hs⟩, hl⟩
def shiftMeans (lap : Int) (one other : List Int) (change : Int) : List (Int × Int) := (rng lap.toNat).map fun s => changeP lap one (later lap other s) change
def joinMeans (lap : Int) (one other : List Int) : List (Int × Int) := (rng lap.toNat).map fun s => meanP lap (uni lap (one ++ later lap other s))
theorem cut8 (ns : List Int) : AL.cutD (dI ns) none (some 8) = dI (ns.take 8) := (cut_to (dI ns) 8).trans (dI_take ns 8)
theorem cutFrom (ns : List Int) (k : Nat) : AL.cutD (dI ns) (some (k : Int)) none = dI (ns.drop k) := (cut_from (dI ns) k).trans (dI_drop ns k)
end S18

namespace S18
open PySem
open AL (rng rng_mem rng_len dI)
/-! ### fractions -/
theorem fr_parts {a b : Int} (hb : 0 < b) : ∃ g a' b' : Int, 0 < g ∧ a = g * a' ∧ b = g * b' ∧ fr a b = (a', b') ∧ g = Int.gcd a b := by
  have g1 := gcd_pos (a := a) hb
  obtain ⟨a', ha⟩ : (Int.gcd a b : Int) ∣ a := Int.gcd_dvd_left ..
  obtain ⟨b', hb'⟩ : (Int.gcd a b : Int) ∣ b := Int.gcd_dvd_right ..
  refine ⟨Int.gcd a b, a', b', g1, ha, hb', ?_, rfl⟩
  unfold fr
  have e1 : a / (Int.gcd a b : Int) = a' := by
    conv => lhs; lhs; rw [ha]
    exact Int.mul_ediv_cancel_left a' (by omega)
  have e2 : b / (Int.gcd a b : Int) = b' := by
    conv => lhs; lhs; rw [hb']
    exact Int.mul_ediv_cancel_left b' (by omega)
  rw [e1, e2]
theorem fr_cross {a b c d : Int} (hb : 0 < b) (hd : 0 < d) (h : a * d = c * b) : fr a b = fr c d := by
  obtain ⟨g, a', b', hg, ea, eb, ef, eg⟩ := fr_parts (a := a) hb
  obtain ⟨k, c', d', hk, ec, ed, ef2, ek⟩ := fr_parts (a := c) hd
  have s1 : Int.gcd (a * d) (b * d) = Int.gcd a b * d.natAbs := Int.gcd_mul_right ..
  have s2 : Int.gcd (c * b) (d * b) = Int.gcd c d * b.natAbs := Int.gcd_mul_right ..
  rw [h, Int.mul_comm b d, s2] at s1
  have s3 : (Int.gcd c d : Int) * b = (Int.gcd a b : Int) * d := by
    have := congrArg (fun n : Nat => (n : Int)) s1
    simp only [Int.natCast_mul] at this
    rw [Int.natAbs_of_nonneg (by omega), Int.natAbs_of_nonneg (by omega)] at this
    exact this
  rw [← eg, ← ek] at s3
  have e1 : b' = d' := by
    rw [eb, ed] at s3
    have : (k * g) * b' = (k * g) * d' := by
      rw [Int.mul_assoc, s3, ← Int.mul_assoc, Int.mul_comm g k]
    exact Int.eq_of_mul_eq_mul_left (by have := Int.mul_pos hk hg; omega) this
  have hb' : 0 < b' := by
    rw [eb] at hb
    exact Int.pos_of_mul_pos_right hb (by omega)
  have e2 : a' = c' := by
    rw [ea, ed, ec, eb, ← e1] at h
    have : (g * k * b') * a' = (g * k * b') * c' := by
      have l : g * a' * (k * b') = (g * k * b') * a' := by
        rw [Int.mul_assoc g a', Int.mul_left_comm a' k b', ← Int.mul_assoc g k, Int.mul_comm a' b', Int.mul_assoc (g * k)]
      have r : k * c' * (g * b') = (g * k * b') * c' := by
        rw [Int.mul_assoc k c', Int.mul_left_comm c' g b', ← Int.mul_assoc k g, Int.mul_comm c' b', Int.mul_assoc (g * k), Int.mul_comm k g]
      rw [← l, ← r, h]
    refine Int.eq_of_mul_eq_mul_left ?_ this
    have := Int.mul_pos (Int.mul_pos hg hk) hb'
    omega
  rw [ef, ef2, e1, e2]
theorem fr_lt {a b c d : Int} (hb : 0 < b) (hd : 0 < d) (h : ¬ a * d < c * b) : ¬ ltP (fr a b) (fr c d) := by
  obtain ⟨g, a', b', hg, ea, eb, ef, _⟩ := fr_parts (a := a) hb
  obtain ⟨k, c', d', hk, ec, ed, ef2, _⟩ := fr_parts (a := c) hd
  rw [ef, ef2]
  intro h2
  have h3 : a' * d' < c' * b' := h2
  apply h
  have h4 := Int.mul_lt_mul_of_pos_left h3 (Int.mul_pos hg hk)
  have l : a * d = g * k * (a' * d') := by
    rw [ea, ed, Int.mul_assoc g a', Int.mul_left_comm a' k, ← Int.mul_assoc g k]
  have r : c * b = g * k * (c' * b') := by
    rw [ec, eb, Int.mul_assoc k c', Int.mul_left_comm c' g, ← Int.mul_assoc k g, Int.mul_comm k g]
  rw [l, r]
  exact h4
theorem fr_ok {t l : Int} (h0 : 0 ≤ t) (h1 : t ≤ l) (h2 : 0 < l) (h3 : l < 2 ^ 29) : 0 < (fr t l).2 ∧ (fr t l).2 < 2 ^ 29 ∧ Int.gcd (fr t l).1 (fr t l).2 = 1 ∧ 0 ≤ (fr t l).1 ∧ (fr t l).1 ≤ (fr t l).2 := by
  have hd := fr_den (a := t) h2
  have hg := gcd_pos (a := t) h2
  refine ⟨hd.1, by omega, ?_, Int.ediv_nonneg h0 (by omega), Int.ediv_le_ediv hg h1⟩
  exact Int.gcd_ediv_gcd_ediv_gcd (by omega)
theorem fr_zero {b : Int} (hb : 0 < b) : fr 0 b = (0, 1) := by
  have h : fr 0 b = fr 0 1 := fr_cross hb (by decide) (by simp)
  rw [h]
  rfl
/-! ### small ones -/
theorem sum_long {ns : List Int} (h : ns.length ≤ 2000) (hb : ∀ x ∈ ns, 0 ≤ x ∧ x ≤ 2000) : ∀ j, j ≤ ns.length → InLong (ns.getD j 0) ∧ InLong (ns.take j).sum := by
  have key : ∀ ms : List Int, (∀ x ∈ ms, 0 ≤ x ∧ x ≤ 2000) → 0 ≤ ms.sum ∧ ms.sum ≤ 2000 * ms.length := by
    intro ms
    induction ms with
    | nil => intro _; exact ⟨Int.le_refl 0, Int.le_refl 0⟩
    | cons x xs ih =>
      intro hx
      have h1 := hx x List.mem_cons_self
      have h2 := ih fun y hy => hx y (List.mem_cons_of_mem _ hy)
      rw [List.sum_cons, List.length_cons]
      omega
  intro j hj
  constructor
  · rw [List.getD_eq_getElem?_getD]
    cases e : ns[j]? with
    | none => exact ⟨by decide, by decide⟩
    | some x =>
      have := hb x (List.mem_of_getElem? e)
      show InLong x
      unfold InLong
      omega
  · have := key (ns.take j) fun x hx => hb x (List.mem_of_mem_take hx)
    rw [List.length_take] at this
    unfold InLong
    omega
theorem good_take {lap : Int} {a : List Int} (ga : Good lap a) (k : Nat) (hk : 0 < k) : Good lap (a.take k) := by
  have h1 := ga.ne
  have h2 := ga.le
  exact ⟨ga.l1, ga.l2, by rw [List.length_take]; omega, by rw [List.length_take]; omega, fun t ht => ga.rg t (List.mem_of_mem_take ht), ga.asc.sublist (List.take_sublist _ _)⟩
theorem more_bd {gap many : Int} (h3 : 1 ≤ gap) (h4 : gap ≤ 20) (h5 : 1 ≤ many) (h6 : many ≤ 60) : 0 ≤ (many - 1) * gap * (gap - 1) + gap / 2 * (gap / 2 - 1) + (gap - gap / 2) * (gap - gap / 2 - 1) ∧ (many - 1) * gap * (gap - 1) + gap / 2 * (gap / 2 - 1) + (gap - gap / 2) * (gap - gap / 2 - 1) < 2 ^ 60 := by
  have a1 : 0 ≤ (many - 1) * gap := Int.mul_nonneg (by omega) (by omega)
  have a2 : (many - 1) * gap ≤ 60 * 20 := Int.mul_le_mul (by omega) (by omega) (by omega) (by decide)
  have a3 : 0 ≤ (many - 1) * gap * (gap - 1) := Int.mul_nonneg a1 (by omega)
  have a4 : (many - 1) * gap * (gap - 1) ≤ 1200 * 20 := Int.mul_le_mul a2 (by omega) (by omega) (by decide)
  have b1 : -20 ≤ gap / 2 * (gap / 2 - 1) ∧ gap / 2 * (gap / 2 - 1) ≤ 400 ∧ 0 ≤ gap / 2 * (gap / 2 - 1) := by
    have : gap / 2 = 0 ∨ 1 ≤ gap / 2 := by omega
    rcases this with e | e
    · rw [e]; decide
    · have c1 := Int.mul_nonneg (show 0 ≤ gap / 2 by omega) (show 0 ≤ gap / 2 - 1 by omega)
      have c2 := Int.mul_le_mul (show gap / 2 ≤ 20 by omega) (show gap / 2 - 1 ≤ 20 by omega) (by omega) (by decide)
      omega
  have b2 : 0 ≤ (gap - gap / 2) * (gap - gap / 2 - 1) ∧ (gap - gap / 2) * (gap - gap / 2 - 1) ≤ 400 := by
    have c1 := Int.mul_nonneg (show 0 ≤ gap - gap / 2 by omega) (show 0 ≤ gap - gap / 2 - 1 by omega)
    have c2 := Int.mul_le_mul (show gap - gap / 2 ≤ 20 by omega) (show gap - gap / 2 - 1 ≤ 20 by omega) (by omega) (by decide)
    omega
  omega
theorem enough_num {lap most : Int} (h1 : 1 ≤ lap) (h2 : 0 ≤ most) : -(-lap / (most + 1)) = (lap + most) / (most + 1) ∧ 1 ≤ (lap + most) / (most + 1) ∧ (lap + most) / (most + 1) ≤ lap := by
  have hp : 0 < most + 1 := by omega
  refine ⟨?_, (Int.le_ediv_iff_mul_le hp).mpr (by omega), ?_⟩
  · have e1 := Int.emod_add_mul_ediv (-lap) (most + 1)
    have l1 := Int.emod_nonneg (-lap) (show most + 1 ≠ 0 by omega)
    have l2 := Int.emod_lt_of_pos (-lap) hp
    have e2 := Int.emod_add_mul_ediv (lap + most) (most + 1)
    have l3 := Int.emod_nonneg (lap + most) (show most + 1 ≠ 0 by omega)
    have l4 := Int.emod_lt_of_pos (lap + most) hp
    generalize -lap / (most + 1) = q at *
    generalize (lap + most) / (most + 1) = r at *
    generalize (-lap) % (most + 1) = u at *
    generalize (lap + most) % (most + 1) = v at *
    have e3 : (most + 1) * (q + r) = most - v - u := by rw [Int.mul_add]; omega
    have lo : -(most + 1) < (most + 1) * (q + r) := by omega
    have hi : (most + 1) * (q + r) < most + 1 := by omega
    have : q + r = 0 := by
      rcases Int.lt_trichotomy (q + r) 0 with z | z | z
      · have := Int.mul_le_mul_of_nonneg_left (show q + r ≤ -1 by omega) (show 0 ≤ most + 1 by omega)
        omega
      · exact z
      · have := Int.mul_le_mul_of_nonneg_left (show 1 ≤ q + r by omega) (show 0 ≤ most + 1 by omega)
        omega
    omega
  · refine Int.ediv_le_of_le_mul hp ?_
    have := Int.mul_le_mul_of_nonneg_right h1 h2
    rw [Int.mul_add]
    omega
theorem enough_mono {lap s t : Int} (h1 : 1 ≤ lap) (h2 : 0 ≤ s) (h3 : s ≤ t) : (lap + t) / (t + 1) ≤ (lap + s) / (s + 1) := by
  have hs : 0 < s + 1 := by omega
  have ht : 0 < t + 1 := by omega
  have e2 := Int.emod_add_mul_ediv (lap + s) (s + 1)
  have l3 := Int.emod_nonneg (lap + s) (show s + 1 ≠ 0 by omega)
  have l4 := Int.emod_lt_of_pos (lap + s) hs
  have hq : 1 ≤ (lap + s) / (s + 1) := (Int.le_ediv_iff_mul_le hs).mpr (by omega)
  generalize (lap + s) / (s + 1) = q at *
  have h : (lap + t) / (t + 1) < q + 1 := by
    refine Int.ediv_lt_of_lt_mul ht ?_
    -- lap <= q (s+1) <= q (t+1)
    have a : q * (s + 1) ≤ q * (t + 1) := Int.mul_le_mul_of_nonneg_left (by omega) (by omega)
    rw [Int.mul_comm (s + 1) q] at e2
    rw [Int.add_mul]
    omega
  omega
/-! ### waits -/
theorem wait_spec {lap : Int} {ts : List Int} (h : 0 < ts.length) (m : Int) : (∃ t ∈ ts, waitBy lap ts m = (t - m) % lap) ∧ ∀ t ∈ ts, waitBy lap ts m ≤ (t - m) % lap := by
  have hne : ts.map (fun t => (t - m) % lap) ≠ [] := fun e => by
    have := congrArg List.length e
    rw [List.length_map] at this
    simp at this
    rw [this] at h
    cases h
  obtain ⟨h1, h2⟩ := minI_spec hne
  constructor
  · obtain ⟨t, ht, e⟩ := List.mem_map.mp h1
    exact ⟨t, ht, e.symm⟩
  · intro t ht
    exact h2 _ (List.mem_map.mpr ⟨t, ht, rfl⟩)
theorem wait_rg {lap : Int} {ts : List Int} (hl : 0 < lap) (h : 0 < ts.length) (m : Int) : 0 ≤ waitBy lap ts m ∧ waitBy lap ts m < lap := by
  obtain ⟨⟨t, _, e⟩, _⟩ := wait_spec (lap := lap) h m
  rw [e]
  exact ⟨Int.emod_nonneg _ (by omega), Int.emod_lt_of_pos _ hl⟩
theorem wait_sub {lap : Int} {a b : List Int} (ha : 0 < a.length) (hb : 0 < b.length) (h : ∀ t ∈ a, t ∈ b) (m : Int) : waitBy lap b m ≤ waitBy lap a m := by
  obtain ⟨⟨t, ht, e⟩, _⟩ := wait_spec (lap := lap) ha m
  rw [e]
  exact (wait_spec (lap := lap) hb m).2 t (h t ht)
theorem union_min {lap m : Int} {a b : List Int} (ga : Good lap a) (gb : Good lap b) : waitBy lap (uni lap (a ++ b)) m = min (waitBy lap a m) (waitBy lap b m) := by
  have hr : ∀ t ∈ a ++ b, 0 ≤ t ∧ t < lap := fun t ht => (List.mem_append.mp ht).elim (ga.rg t) (gb.rg t)
  have hm := uni_mem hr
  have h0 : 0 < (uni lap (a ++ b)).length := List.length_pos_of_mem ((hm (a[0]'ga.ne)).mpr (List.mem_append_left _ (List.getElem_mem ga.ne)))
  have h1 := wait_sub (lap := lap) ga.ne h0 (fun t ht => (hm t).mpr (List.mem_append_left _ ht)) m
  have h2 := wait_sub (lap := lap) gb.ne h0 (fun t ht => (hm t).mpr (List.mem_append_right _ ht)) m
  obtain ⟨⟨t, ht, e⟩, _⟩ := wait_spec (lap := lap) h0 m
  rcases List.mem_append.mp ((hm t).mp ht) with z | z
  · have := (wait_spec (lap := lap) ga.ne m).2 t z
    omega
  · have := (wait_spec (lap := lap) gb.ne m).2 t z
    omega
theorem change_zero {lap : Int} {a b : List Int} (ga : Good lap a) (gb : Good lap b) (h : ∀ t ∈ a, t ∈ b) : changeP lap a b 0 = (0, 1) := by
  unfold changeP
  have hl := ga.l1
  have e : (a.map fun t => waitBy lap b (t + 0)).sum = 0 := by
    have : ∀ xs : List Int, (∀ t ∈ xs, t ∈ b) → (xs.map fun t => waitBy lap b (t + 0)).sum = 0 := by
      intro xs
      induction xs with
      | nil => intro _; rfl
      | cons x xs ih =>
        intro hx
        rw [List.map_cons, List.sum_cons, ih fun t ht => hx t (List.mem_cons_of_mem _ ht)]
        have h1 := (wait_spec (lap := lap) gb.ne (x + 0)).2 x (hx x List.mem_cons_self)
        have h2 := wait_rg (lap := lap) (by omega) gb.ne (x + 0)
        rw [show x - (x + 0) = 0 by omega, Int.zero_emod] at h1
        omega
    exact this a h
  rw [e]
  exact fr_zero (by have := ga.ne; omega)
theorem change_bd {lap c : Int} {a b : List Int} (ga : Good lap a) (gb : Good lap b) : 0 < (changeP lap a b c).2 ∧ (changeP lap a b c).2 ≤ 60 := by
  have h1 := ga.ne
  have h2 := ga.le
  have := fr_den (a := (a.map fun t => waitBy lap b (t + c)).sum) (b := (a.length : Int)) (by omega)
  unfold changeP
  omega
theorem sum_le {xs : List Int} {f g : Int → Int} (h : ∀ x ∈ xs, f x ≤ g x) : (xs.map f).sum ≤ (xs.map g).sum := by
  induction xs with
  | nil => exact Int.le_refl _
  | cons x xs ih =>
    rw [List.map_cons, List.map_cons, List.sum_cons, List.sum_cons]
    have h1 := h x List.mem_cons_self
    have h2 := ih fun y hy => h y (List.mem_cons_of_mem _ hy)
    omega
theorem change_sub {lap c : Int} {a b o : List Int} (ga : Good lap a) (gb : Good lap b) (go : Good lap o) (h : ∀ t ∈ o, t ∈ b) : ¬ (changeP lap a b c).1 * (changeP lap a o c).2 > (changeP lap a o c).1 * (changeP lap a b c).2 := by
  have hn : (0 : Int) < a.length := by have := ga.ne; omega
  have hs := sum_le (xs := a) (f := fun t => waitBy lap b (t + c)) (g := fun t => waitBy lap o (t + c)) fun t _ => wait_sub go.ne gb.ne h _
  have := fr_lt (a := (a.map fun t => waitBy lap o (t + c)).sum) (b := a.length) (c := (a.map fun t => waitBy lap b (t + c)).sum) (d := a.length) hn hn (by
    have := Int.mul_le_mul_of_nonneg_right hs (show (0 : Int) ≤ a.length by omega)
    omega)
  exact this
theorem best_zero {lap : Int} {a b : List Int} (ga : Good lap a) (gb : Good lap b) (h : ∀ t ∈ a, t ∈ b) {j : Nat} {m : Int × Int} (hl : Least (shiftMeans lap a b 0) j m) : j = 0 ∧ m = (0, 1) := by
  have h1 := ga.l1
  have hla : later lap b 0 = b := by
    unfold later
    have : ∀ xs : List Int, (∀ t ∈ xs, 0 ≤ t ∧ t < lap) → (xs.map fun t => (t + 0) % lap) = xs := by
      intro xs
      induction xs with
      | nil => intro _; rfl
      | cons x xs ih =>
        intro hx
        have := hx x List.mem_cons_self
        rw [List.map_cons, ih fun t ht => hx t (List.mem_cons_of_mem _ ht), Int.add_zero, Int.emod_eq_of_lt this.1 this.2]
    exact this b gb.rg
  have e0 : (shiftMeans lap a b 0)[0]? = some (0, 1) := by
    unfold shiftMeans
    rw [List.getElem?_map, AL.rng_get (by omega)]
    show some (changeP lap a (later lap b ((0 : Nat) : Int)) 0) = _
    rw [show later lap b ((0 : Nat) : Int) = b from hla, change_zero ga gb h]
  obtain ⟨e1, e2, e3⟩ := hl
  rcases (show j = 0 ∨ ∃ q, (shiftMeans lap a b 0)[0]? = some q ∧ ltP m q from by
    by_cases z : j = 0
    · exact .inl z
    · exact .inr ⟨_, e0, e3 0 (by omega) _ e0⟩) with rfl | ⟨q, hq, hlt⟩
  · rw [e0] at e1
    exact ⟨rfl, (Option.some.inj e1).symm⟩
  · exfalso
    rw [e0] at hq
    have hq := Option.some.inj hq
    rw [← hq] at hlt
    have hlt2 : m.1 * 1 < 0 * m.2 := hlt
    have hm := List.mem_of_getElem? e1
    obtain ⟨s, _, rfl⟩ := List.mem_map.mp hm
    have hnn : 0 ≤ (changeP lap a (later lap b s) 0).1 := by
      refine Int.ediv_nonneg ?_ (Int.natCast_nonneg _)
      have : ∀ xs : List Int, 0 ≤ (xs.map fun t => waitBy lap (later lap b s) (t + 0)).sum := by
        intro xs
        induction xs with
        | nil => exact Int.le_refl _
        | cons x xs ih =>
          rw [List.map_cons, List.sum_cons]
          have := wait_rg (lap := lap) (ts := later lap b s) (by omega) (by rw [later_len]; exact gb.ne) (x + 0)
          omega
      exact this a
    rw [Int.mul_one, Int.zero_mul] at hlt2
    omega
theorem together_le {lap : Int} {a b : List Int} (ga : Good lap a) (gb : Good lap b) {j : Nat} {m : Int × Int} (hl : Least (joinMeans lap a b) j m) : ¬ ltP (meanP lap (uni lap (a ++ b))) m := by
  have h1 := ga.l1
  refine hl.2.1 _ (List.mem_map.mpr ⟨0, rng_mem.mpr (by omega), ?_⟩)
  have hla : later lap b 0 = b := by
    unfold later
    have : ∀ xs : List Int, (∀ t ∈ xs, 0 ≤ t ∧ t < lap) → (xs.map fun t => (t + 0) % lap) = xs := by
      intro xs
      induction xs with
      | nil => intro _; rfl
      | cons x xs ih =>
        intro hx
        have := hx x List.mem_cons_self
        rw [List.map_cons, ih fun t ht => hx t (List.mem_cons_of_mem _ ht), Int.add_zero, Int.emod_eq_of_lt this.1 this.2]
    exact this b gb.rg
  rw [hla]
theorem least_den {lap : Int} {a b : List Int} (ga : Good lap a) {j : Nat} {m : Int × Int} (hl : Least (joinMeans lap a b) j m) : 0 < m.2 ∧ m.2 ≤ 2880 := by
  obtain ⟨s, _, rfl⟩ := List.mem_map.mp (List.mem_of_getElem? hl.1)
  exact meanP_den _ ga.l1 ga.l2
end S18

namespace S18
open PySem
open AL (rng rng_mem rng_len rng_succ dI)
/-! ### sums -/
def SS (f : Int → Int) (g : Int) : Int := ((rng g.toNat).map f).sum
def iv (a : Int) (n : Nat) : List Int := (rng n).map fun k => a + 1 + k
theorem iv_zero (a : Int) : iv a 0 = [] := rfl
theorem iv_succ (a : Int) (n : Nat) : iv a (n + 1) = iv a n ++ [a + 1 + n] := by
  unfold iv
  rw [rng_succ, List.map_append]
  rfl
theorem iv_add (a : Int) (n : Nat) : ∀ k : Nat, iv a (n + k) = iv a n ++ iv (a + n) k
  | 0 => by rw [iv_zero, List.append_nil]; rfl
  | k + 1 => by
    rw [show n + (k + 1) = (n + k) + 1 from rfl, iv_succ, iv_add a n k, iv_succ, List.append_assoc]
    congr 2
    have : ((n + k : Nat) : Int) = (n : Int) + k := Int.natCast_add n k
    rw [this]
    congr 1
    omega
theorem iv_mem {a : Int} {n : Nat} {m : Int} : m ∈ iv a n ↔ a < m ∧ m ≤ a + n := by
  unfold iv
  rw [List.mem_map]
  constructor
  · rintro ⟨k, hk, rfl⟩
    have := rng_mem.mp hk
    omega
  · rintro ⟨h1, h2⟩
    exact ⟨m - a - 1, rng_mem.mpr (by omega), by omega⟩
theorem iv_rng (n : Nat) : iv (-1) n = rng n := by
  unfold iv
  have : (fun k : Int => -1 + 1 + k) = fun k => k := by
    funext k
    omega
  rw [this, List.map_id']
theorem map_sum_congr {xs : List Int} {f g : Int → Int} (h : ∀ x ∈ xs, f x = g x) : (xs.map f).sum = (xs.map g).sum := by
  rw [List.map_congr_left h]
/-- a segment, from its end -/
theorem seg_sum (f : Int → Int) : ∀ (n : Nat) (a : Int), ((iv a n).map fun m => f (a + n - m)).sum = SS f n
  | 0, a => by rw [iv_zero]; rfl
  | n + 1, a => by
    have e : iv a (n + 1) = [a + 1] ++ iv (a + 1) n := by
      rw [show n + 1 = 1 + n from Nat.add_comm n 1, iv_add]
      congr 1
      show [a + 1 + 0] = _
      rw [Int.add_zero]
    rw [e, List.map_append, List.sum_append]
    have e2 : ((iv (a + 1) n).map fun m => f (a + ((n + 1 : Nat) : Int) - m)).sum = ((iv (a + 1) n).map fun m => f (a + 1 + n - m)).sum := map_sum_congr fun x _ => by
      congr 1
      have : ((n + 1 : Nat) : Int) = (n : Int) + 1 := Int.natCast_add n 1
      omega
    rw [e2, seg_sum f n (a + 1)]
    unfold SS
    have t1 : ((n + 1 : Nat) : Int).toNat = n + 1 := Int.toNat_natCast _
    have t2 : ((n : Nat) : Int).toNat = n := Int.toNat_natCast _
    rw [t1, t2, rng_succ, List.map_append, List.sum_append]
    show f (a + ((n + 1 : Nat) : Int) - (a + 1)) + 0 + _ = _ + (f n + 0)
    have : a + ((n + 1 : Nat) : Int) - (a + 1) = n := by
      have : ((n + 1 : Nat) : Int) = (n : Int) + 1 := Int.natCast_add n 1
      omega
    rw [this]
    omega
/-- a whole round from anywhere -/
theorem round_sum {F : Int → Int} {n : Nat} (h : ∀ m, F (m + n) = F m) : ∀ k : Nat, ((iv (-1 + (k : Int)) n).map F).sum = ((rng n).map F).sum
  | 0 => by rw [← iv_rng]; rfl
  | k + 1 => by
    rw [← round_sum h k]
    have e1 : iv (-1 + (k : Int)) (n + 1) = iv (-1 + (k : Int)) n ++ [-1 + (k : Int) + 1 + n] := iv_succ _ _
    have e2 : iv (-1 + (k : Int)) (1 + n) = iv (-1 + (k : Int)) 1 ++ iv (-1 + (k : Int) + 1) n := iv_add _ _ _
    rw [Nat.add_comm 1 n, e1] at e2
    have e3 := congrArg (fun l => (l.map F).sum) e2
    simp only [List.map_append, List.sum_append] at e3
    have e4 : iv (-1 + (k : Int)) 1 = [(-1 + (k : Int)) + 1 + 0] := rfl
    rw [e4] at e3
    simp only [List.map_cons, List.map_nil, List.sum_cons, List.sum_nil] at e3
    have e5 := h (-1 + (k : Int) + 1)
    have e6 : (-1 + ((k + 1 : Nat) : Int)) = -1 + (k : Int) + 1 := by
      have : ((k + 1 : Nat) : Int) = (k : Int) + 1 := Int.natCast_add k 1
      omega
    rw [e6]
    have e7 : -1 + (k : Int) + 1 + 0 = -1 + (k : Int) + 1 := by omega
    rw [e7] at e3
    omega
/-! ### chains -/
def chainG : Int → List Int → List Int
  | _, [] => []
  | s, t :: ts => (t - s) :: chainG t ts
def nxt : List Int → Int → Int
  | [], _ => 0
  | t :: ts, m => if m ≤ t then t else nxt ts m
def lastD : Int → List Int → Int
  | s, [] => s
  | _, t :: ts => lastD t ts
theorem lastD_ge : ∀ (ts : List Int) (s : Int), (s :: ts).Pairwise (· < ·) → s ≤ lastD s ts
  | [], s, _ => Int.le_refl s
  | t :: ts, s, h => by
    obtain ⟨h1, h2⟩ := List.pairwise_cons.mp h
    have := h1 t List.mem_cons_self
    have := lastD_ge ts t h2
    show s ≤ lastD t ts
    omega
theorem chain_sum (f : Int → Int) : ∀ (ts : List Int) (s : Int), (s :: ts).Pairwise (· < ·) → ((iv s (lastD s ts - s).toNat).map fun m => f (nxt ts m - m)).sum = ((chainG s ts).map (SS f)).sum
  | [], s, _ => by
    show ((iv s (s - s).toNat).map _).sum = 0
    rw [Int.sub_self]
    rfl
  | t :: ts, s, h => by
    obtain ⟨h1, h2⟩ := List.pairwise_cons.mp h
    have hst := h1 t List.mem_cons_self
    have hl := lastD_ge ts t h2
    have e : (lastD s (t :: ts) - s).toNat = (t - s).toNat + (lastD t ts - t).toNat := by
      show (lastD t ts - s).toNat = _
      omega
    rw [e, iv_add, List.map_append, List.sum_append]
    have es : s + ((t - s).toNat : Int) = t := by omega
    rw [es]
    show _ = SS f (t - s) + ((chainG t ts).map (SS f)).sum
    rw [← chain_sum f ts t h2]
    congr 1
    · have := seg_sum f (t - s).toNat s
      rw [es] at this
      have e3 : (((t - s).toNat : Nat) : Int) = t - s := by omega
      rw [e3] at this
      rw [← this]
      refine map_sum_congr fun m hm => ?_
      have hm2 := iv_mem.mp hm
      show f ((if m ≤ t then t else nxt ts m) - m) = _
      rw [if_pos (by omega)]
    · refine map_sum_congr fun m hm => ?_
      have hm2 := iv_mem.mp hm
      show f ((if m ≤ t then t else nxt ts m) - m) = _
      rw [if_neg (by omega)]
theorem nxt_spec : ∀ (ts : List Int) (m : Int), ts.Pairwise (· < ·) → (∃ t ∈ ts, m ≤ t) → nxt ts m ∈ ts ∧ m ≤ nxt ts m ∧ ∀ t ∈ ts, m ≤ t → nxt ts m ≤ t
  | [], m, _, h => by obtain ⟨t, ht, _⟩ := h; cases ht
  | t :: ts, m, h, hex => by
    obtain ⟨h1, h2⟩ := List.pairwise_cons.mp h
    by_cases hm : m ≤ t
    · have e : nxt (t :: ts) m = t := if_pos hm
      rw [e]
      refine ⟨List.mem_cons_self, hm, fun u hu _ => ?_⟩
      rcases List.mem_cons.mp hu with z | z
      · omega
      · have := h1 u z; omega
    · have e : nxt (t :: ts) m = nxt ts m := if_neg hm
      rw [e]
      obtain ⟨u, hu, hmu⟩ := hex
      have hu2 : u ∈ ts := by
        rcases List.mem_cons.mp hu with z | z
        · omega
        · exact z
      obtain ⟨k1, k2, k3⟩ := nxt_spec ts m h2 ⟨u, hu2, hmu⟩
      refine ⟨List.mem_cons_of_mem _ k1, k2, fun v hv hmv => ?_⟩
      rcases List.mem_cons.mp hv with z | z
      · omega
      · exact k3 v z hmv
theorem lastD_snoc : ∀ (ts : List Int) (s x : Int), lastD s (ts ++ [x]) = x
  | [], _, _ => rfl
  | t :: ts, _, x => lastD_snoc ts t x
theorem wait_eq {lap : Int} {ts : List Int} {m v : Int} (h1 : ∃ t ∈ ts, v = (t - m) % lap) (h2 : ∀ t ∈ ts, v ≤ (t - m) % lap) : waitBy lap ts m = v := by
  obtain ⟨t, ht, e⟩ := h1
  have h0 : 0 < ts.length := List.length_pos_of_mem ht
  obtain ⟨⟨u, hu, e2⟩, h3⟩ := wait_spec (lap := lap) h0 m
  have a := h2 u hu
  have b := h3 t ht
  omega
theorem wait_period {lap : Int} {ts : List Int} (m : Int) (h : 0 < ts.length) : waitBy lap ts (m + lap) = waitBy lap ts m := by
  unfold waitBy
  congr 1
  refine List.map_congr_left fun t _ => ?_
  have : t - (m + lap) = t - m + lap * (-1) := by omega
  rw [this, Int.add_mul_emod_self_left]
/-- gaps are the chain's -/
theorem gaps_chain1 {lap t0 : Int} (hl : 0 < lap) : ∀ (rest : List Int) (t : Int), (t :: rest).Pairwise (· < ·) → (∀ u ∈ t :: rest, 0 ≤ u ∧ u < lap) → 0 ≤ t0 → t0 ≤ t → (rest = [] → t0 < t) →
    ((t :: rest).zip (rest ++ [t0])).map (fun p => (p.2 - p.1) % lap) = chainG t (rest ++ [t0 + lap])
  | [], t, _, hr, h0, _, hlt => by
    have := hr t List.mem_cons_self
    have := hlt rfl
    show [(t0 - t) % lap] = [t0 + lap - t]
    have e : t0 - t = (t0 + lap - t) + lap * (-1) := by omega
    rw [e, Int.add_mul_emod_self_left, Int.emod_eq_of_lt (by omega) (by omega)]
  | r :: rest, t, h, hr, h0, hle, _ => by
    obtain ⟨h1, h2⟩ := List.pairwise_cons.mp h
    have a := hr t List.mem_cons_self
    have b := hr r (List.mem_cons_of_mem _ List.mem_cons_self)
    have c := h1 r List.mem_cons_self
    show (r - t) % lap :: _ = (r - t) :: _
    rw [Int.emod_eq_of_lt (by omega) (by omega)]
    congr 1
    exact gaps_chain1 hl rest r h2 (fun u hu => hr u (List.mem_cons_of_mem _ hu)) h0 (by omega) (fun _ => by omega)
theorem gaps_chain {lap t0 : Int} {rest : List Int} (g : Good lap (t0 :: rest)) : gaps lap (t0 :: rest) = chainG t0 (rest ++ [t0 + lap]) := by
  have hl := g.l1
  have h0 := g.rg t0 List.mem_cons_self
  cases rest with
  | nil =>
    show [if 1 < 1 then _ else lap] = [t0 + lap - t0]
    rw [if_neg (by decide)]
    congr 1
    omega
  | cons r rest =>
    have e := gaps_chain1 (lap := lap) (t0 := t0) (by omega) (r :: rest) t0 g.asc g.rg h0.1 (Int.le_refl _) (fun z => by cases z)
    rw [← e]
    show ((t0 :: r :: rest).zip (r :: rest ++ [t0])).map _ = _
    refine List.map_congr_left fun p _ => ?_
    rw [if_pos (by simp)]
/-- the sum over a round, by gaps -/
theorem core {lap : Int} {ts : List Int} (g : Good lap ts) (f : Int → Int) : ((rng lap.toNat).map fun m => f (waitBy lap ts m)).sum = ((gaps lap ts).map (SS f)).sum := by
  obtain ⟨t0, rest, rfl⟩ : ∃ t0 rest, ts = t0 :: rest := by
    cases ts with
    | nil => exact absurd g.ne (by simp)
    | cons a b => exact ⟨a, b, rfl⟩
  have hl := g.l1
  have h0 := g.rg t0 List.mem_cons_self
  obtain ⟨a1, a2⟩ := List.pairwise_cons.mp g.asc
  have hch : (t0 :: (rest ++ [t0 + lap])).Pairwise (· < ·) := by
    refine List.pairwise_cons.mpr ⟨fun u hu => ?_, List.pairwise_append.mpr ⟨a2, List.pairwise_singleton _ _, fun u hu v hv => ?_⟩⟩
    · rcases List.mem_append.mp hu with z | z
      · exact a1 u z
      · rw [List.mem_singleton.mp z]; omega
    · rw [List.mem_singleton.mp hv]
      have := g.rg u (List.mem_cons_of_mem _ hu)
      omega
  rw [gaps_chain g, ← chain_sum f _ _ hch, lastD_snoc]
  have hp : ∀ m, (fun m => f (waitBy lap (t0 :: rest) m)) (m + (lap.toNat : Nat)) = (fun m => f (waitBy lap (t0 :: rest) m)) m := fun m => by
    show f (waitBy lap (t0 :: rest) (m + (lap.toNat : Nat))) = _
    rw [Int.toNat_of_nonneg (by omega), wait_period m g.ne]
  rw [← round_sum hp (t0 + 1).toNat]
  have e1 : (-1 + (((t0 + 1).toNat : Nat) : Int)) = t0 := by omega
  have e2 : (t0 + lap - t0).toNat = lap.toNat := by omega
  rw [e1, e2]
  refine map_sum_congr fun m hm => ?_
  have hm2 := iv_mem.mp hm
  have hm3 : t0 < m ∧ m ≤ t0 + lap := by omega
  obtain ⟨k1, k2, k3⟩ := nxt_spec (rest ++ [t0 + lap]) m (List.pairwise_cons.mp hch).2 ⟨t0 + lap, List.mem_append_right _ List.mem_cons_self, hm3.2⟩
  have k4 := k3 (t0 + lap) (List.mem_append_right _ List.mem_cons_self) hm3.2
  congr 1
  refine wait_eq ?_ fun t ht => ?_
  · rcases List.mem_append.mp k1 with z | z
    · have := g.rg _ (List.mem_cons_of_mem _ z)
      exact ⟨_, List.mem_cons_of_mem _ z, by rw [Int.emod_eq_of_lt (by omega) (by omega)]⟩
    · have z := List.mem_singleton.mp z
      refine ⟨t0, List.mem_cons_self, ?_⟩
      have e : t0 - m = (t0 + lap - m) + lap * (-1) := by omega
      rw [z, e, Int.add_mul_emod_self_left, Int.emod_eq_of_lt (by omega) (by omega)]
  · have hr := g.rg t ht
    by_cases hmt : m ≤ t
    · have ht2 : t ∈ rest := by
        rcases List.mem_cons.mp ht with z | z
        · omega
        · exact z
      have := k3 t (List.mem_append_left _ ht2) hmt
      rw [Int.emod_eq_of_lt (by omega) (by omega)]
      omega
    · have ht0 : t0 ≤ t := by
        rcases List.mem_cons.mp ht with z | z
        · omega
        · have := a1 t z; omega
      have e : t - m = (t + lap - m) + lap * (-1) := by omega
      rw [e, Int.add_mul_emod_self_left, Int.emod_eq_of_lt (by omega) (by omega)]
      omega
end S18

namespace S18
open PySem
open AL (rng rng_mem rng_len rng_succ rng_get dI)
theorem sum_add (xs : List Int) (f g : Int → Int) : (xs.map fun x => f x + g x).sum = (xs.map f).sum + (xs.map g).sum := by
  induction xs with
  | nil => rfl
  | cons x xs ih =>
    simp only [List.map_cons, List.sum_cons, ih]
    omega
theorem sum_cmul (xs : List Int) (c : Int) (f : Int → Int) : (xs.map fun x => c * f x).sum = c * (xs.map f).sum := by
  induction xs with
  | nil => simp
  | cons x xs ih =>
    simp only [List.map_cons, List.sum_cons, ih, Int.mul_add]
theorem sum_ones (xs : List Int) : (xs.map fun _ => (1 : Int)).sum = xs.length := by
  induction xs with
  | nil => rfl
  | cons x xs ih =>
    simp only [List.map_cons, List.sum_cons, ih, List.length_cons]
    omega
theorem sum_nn {xs : List Int} {f : Int → Int} (h : ∀ x ∈ xs, 0 ≤ f x) : 0 ≤ (xs.map f).sum := by
  induction xs with
  | nil => exact Int.le_refl _
  | cons x xs ih =>
    rw [List.map_cons, List.sum_cons]
    have h1 := h x List.mem_cons_self
    have h2 := ih fun y hy => h y (List.mem_cons_of_mem _ hy)
    omega
theorem sum_one_le {xs : List Int} {f : Int → Int} (h : ∀ x ∈ xs, 0 ≤ f x) {y : Int} (hy : y ∈ xs) : f y ≤ (xs.map f).sum := by
  induction xs with
  | nil => cases hy
  | cons x xs ih =>
    rw [List.map_cons, List.sum_cons]
    have h1 := h x List.mem_cons_self
    have h2 := sum_nn fun z hz => h z (List.mem_cons_of_mem x hz)
    rcases List.mem_cons.mp hy with e | e
    · rw [e]; omega
    · have := ih (fun z hz => h z (List.mem_cons_of_mem _ hz)) e
      omega
theorem sum_lt {xs : List Int} {f g : Int → Int} (h : ∀ x ∈ xs, f x ≤ g x) {y : Int} (hy : y ∈ xs) (hlt : f y < g y) : (xs.map f).sum < (xs.map g).sum := by
  induction xs with
  | nil => cases hy
  | cons x xs ih =>
    rw [List.map_cons, List.map_cons, List.sum_cons, List.sum_cons]
    have h1 := h x List.mem_cons_self
    have h2 := sum_le fun z hz => h z (List.mem_cons_of_mem x hz)
    rcases List.mem_cons.mp hy with e | e
    · rw [e] at hlt; omega
    · have := ih (fun z hz => h z (List.mem_cons_of_mem _ hz)) e
      omega
theorem filter_len (xs : List Int) (p : Int → Bool) : ((xs.filter p).length : Int) = (xs.map fun x => if p x = true then (1 : Int) else 0).sum := by
  induction xs with
  | nil => rfl
  | cons x xs ih =>
    rw [List.filter_cons, List.map_cons, List.sum_cons]
    by_cases h : p x = true
    · rw [if_pos h, if_pos h, List.length_cons, ← ih]
      omega
    · rw [if_neg h, if_neg h, ← ih]
      omega
def ind (k x : Int) : Int := if x = k then 1 else 0
theorem SS_ind_nat {k : Int} (hk : 0 ≤ k) : ∀ n : Nat, ((rng n).map (ind k)).sum = if k < n then 1 else 0
  | 0 => by
    rw [if_neg (by omega)]
    rfl
  | n + 1 => by
    rw [rng_succ, List.map_append, List.sum_append, SS_ind_nat hk n]
    show _ + (ind k n + 0) = _
    unfold ind
    have : ((n + 1 : Nat) : Int) = (n : Int) + 1 := Int.natCast_add n 1
    rw [this]
    by_cases h1 : k < n
    · rw [if_pos h1, if_neg (by omega), if_pos (by omega)]; rfl
    · by_cases h2 : (n : Int) = k
      · rw [if_neg h1, if_pos h2, if_pos (by omega)]; rfl
      · rw [if_neg h1, if_neg h2, if_neg (by omega)]; rfl
theorem SS_ind {k g : Int} (hk : 0 ≤ k) (hg : 0 ≤ g) : SS (ind k) g = if g > k then 1 else 0 := by
  unfold SS
  rw [SS_ind_nat hk]
  have : ((g.toNat : Nat) : Int) = g := Int.toNat_of_nonneg hg
  rw [this]
/-- how many gaps are longer -/
def cg (lap : Int) (ts : List Int) (k : Int) : Int := (((gaps lap ts).filter fun g => decide (g > k)).length : Int)
def MM (lap : Int) (ts : List Int) : Nat := (maxI (gaps lap ts)).toNat
def AA (lap : Int) (ts : List Int) (k : Int) : Int := ((rng lap.toNat).map fun m => if waitBy lap ts m < k then (1 : Int) else 0).sum
section
variable {lap : Int} {ts : List Int}
theorem told_def : told lap ts = (rng (MM lap ts)).map (cg lap ts) := rfl
theorem cg_eq (g : Good lap ts) {k : Int} (hk : 0 ≤ k) : cg lap ts k = ((rng lap.toNat).map fun m => ind k (waitBy lap ts m)).sum := by
  rw [core g (ind k)]
  unfold cg
  rw [filter_len]
  refine map_sum_congr fun x hx => ?_
  have hb := gap_bd (ts := ts) (show 0 < lap by have := g.l1; omega) x hx
  rw [SS_ind hk hb.1]
  by_cases h : x > k
  · rw [if_pos (decide_eq_true h), if_pos h]
  · rw [if_neg (by simp; omega), if_neg h]
theorem max_facts (g : Good lap ts) : maxI (gaps lap ts) ∈ gaps lap ts ∧ (∀ x ∈ gaps lap ts, x ≤ maxI (gaps lap ts)) ∧ 1 ≤ maxI (gaps lap ts) ∧ maxI (gaps lap ts) ≤ lap ∧ ((MM lap ts : Nat) : Int) = maxI (gaps lap ts) := by
  obtain ⟨h1, h2⟩ := maxI_spec (gaps_ne (lap := lap) g.ne)
  have hl := g.l1
  have hb := gap_bd (ts := ts) (show 0 < lap by omega) _ h1
  have h3 : 1 ≤ maxI (gaps lap ts) := by
    rcases Int.lt_or_eq_of_le hb.1 with z | z
    · omega
    · exfalso
      -- all gaps are 0: no sum over the round
      have hz : ∀ x ∈ gaps lap ts, SS (fun _ => 1) x = 0 := fun x hx => by
        have a := h2 x hx
        have b := gap_bd (ts := ts) (show 0 < lap by omega) x hx
        have : x = 0 := by omega
        rw [this]
        rfl
      have e := core g (fun _ => 1)
      rw [sum_ones, map_sum_congr hz, rng_len] at e
      have : ((gaps lap ts).map fun _ => (0 : Int)).sum = 0 := by
        have := sum_cmul (gaps lap ts) 0 (fun _ => 1)
        simpa using this
      rw [this] at e
      omega
  exact ⟨h1, h2, h3, hb.2, by unfold MM; omega⟩
theorem wait_lt (g : Good lap ts) {m : Int} (hm : 0 ≤ m) (hm2 : m < lap) : waitBy lap ts m < MM lap ts := by
  obtain ⟨h1, h2, h3, h4, h5⟩ := max_facts g
  have hr := wait_rg (lap := lap) (by omega) g.ne m
  rcases Int.lt_or_le (waitBy lap ts m) (MM lap ts) with z | z
  · exact z
  · exfalso
    have e := cg_eq g hr.1
    have hc : cg lap ts (waitBy lap ts m) = 0 := by
      unfold cg
      have : ((gaps lap ts).filter fun g => decide (g > waitBy lap ts m)) = [] := by
        refine List.filter_eq_nil_iff.mpr fun x hx => ?_
        have := h2 x hx
        simp
        omega
      rw [this]
      rfl
    have := sum_one_le (xs := rng lap.toNat) (f := fun x => ind (waitBy lap ts m) (waitBy lap ts x)) (fun x _ => by unfold ind; split <;> decide) (y := m) (rng_mem.mpr (by omega))
    have e3 : ind (waitBy lap ts m) (waitBy lap ts m) = 1 := if_pos rfl
    rw [← e, hc] at this
    simp only [e3] at this
    omega
theorem wait_top (g : Good lap ts) : ∃ m, 0 ≤ m ∧ m < lap ∧ waitBy lap ts m = (MM lap ts : Int) - 1 := by
  obtain ⟨h1, h2, h3, h4, h5⟩ := max_facts g
  have e := cg_eq g (k := (MM lap ts : Int) - 1) (by omega)
  have hc : 1 ≤ cg lap ts ((MM lap ts : Int) - 1) := by
    unfold cg
    have : maxI (gaps lap ts) ∈ (gaps lap ts).filter fun g => decide (g > (MM lap ts : Int) - 1) := List.mem_filter.mpr ⟨h1, by simp; omega⟩
    have := List.length_pos_of_mem this
    omega
  rcases Classical.em (∃ m, 0 ≤ m ∧ m < lap ∧ waitBy lap ts m = (MM lap ts : Int) - 1) with z | z
  · exact z
  · exfalso
    have hz : ∀ m ∈ rng lap.toNat, ind ((MM lap ts : Int) - 1) (waitBy lap ts m) = 0 * (1 : Int) := fun m hm => by
      have := rng_mem.mp hm
      unfold ind
      rw [if_neg (fun q => z ⟨m, by omega, by omega, q⟩)]
      rfl
    rw [e, map_sum_congr hz, sum_cmul] at hc
    omega
theorem AA_zero (g : Good lap ts) : AA lap ts 0 = 0 := by
  unfold AA
  have hz : ∀ m ∈ rng lap.toNat, (if waitBy lap ts m < 0 then (1 : Int) else 0) = 0 * 1 := fun m _ => by
    have := wait_rg (lap := lap) (by have := g.l1; omega) g.ne m
    rw [if_neg (by omega)]
    rfl
  rw [map_sum_congr hz, sum_cmul]
  omega
theorem AA_succ (g : Good lap ts) {k : Int} (hk : 0 ≤ k) : AA lap ts (k + 1) = AA lap ts k + cg lap ts k := by
  rw [cg_eq g hk]
  unfold AA
  rw [← sum_add]
  refine map_sum_congr fun m _ => ?_
  unfold ind
  by_cases h1 : waitBy lap ts m < k
  · rw [if_pos (by omega), if_pos h1, if_neg (by omega)]; rfl
  · by_cases h2 : waitBy lap ts m = k
    · rw [if_pos (by omega), if_neg h1, if_pos h2]; rfl
    · rw [if_neg (by omega), if_neg h1, if_neg h2]; rfl
theorem AA_full (g : Good lap ts) {k : Int} (hk : (MM lap ts : Int) ≤ k) : AA lap ts k = lap := by
  unfold AA
  have hz : ∀ m ∈ rng lap.toNat, (if waitBy lap ts m < k then (1 : Int) else 0) = 1 := fun m hm => by
    have := rng_mem.mp hm
    have := wait_lt g (m := m) (by omega) (by omega)
    rw [if_pos (by omega)]
  rw [map_sum_congr hz, sum_ones, rng_len]
  have := g.l1
  omega
theorem AA_lt (g : Good lap ts) {k : Int} (hk : k < MM lap ts) : AA lap ts k < lap := by
  obtain ⟨m, h1, h2, h3⟩ := wait_top g
  have e := AA_full g (k := MM lap ts) (Int.le_refl _)
  have hlt : AA lap ts k < AA lap ts (MM lap ts) := by
    unfold AA
    refine sum_lt (fun x _ => ?_) (y := m) (show m ∈ rng lap.toNat from rng_mem.mpr (by omega)) ?_
    · by_cases h : waitBy lap ts x < k
      · rw [if_pos h, if_pos (by omega)]; exact Int.le_refl _
      · rw [if_neg h]
        split <;> decide
    · rw [if_neg (by omega), if_pos (by omega)]
      decide
  omega
theorem AA_mono {a b : List Int} (ga : Good lap a) (gb : Good lap b) (h : ∀ t ∈ a, t ∈ b) (k : Int) : AA lap a k ≤ AA lap b k := by
  unfold AA
  refine sum_le fun m _ => ?_
  have := wait_sub (lap := lap) ga.ne gb.ne h m
  by_cases h : waitBy lap a m < k
  · rw [if_pos h, if_pos (by omega)]; exact Int.le_refl _
  · rw [if_neg h]
    split <;> decide
theorem cg_sum (g : Good lap ts) : ∀ n : Nat, ((rng n).map (cg lap ts)).sum = AA lap ts n
  | 0 => (AA_zero g).symm
  | n + 1 => by
    rw [rng_succ, List.map_append, List.sum_append, cg_sum g n]
    have : ((n + 1 : Nat) : Int) = (n : Int) + 1 := Int.natCast_add n 1
    rw [this, AA_succ g (Int.natCast_nonneg n)]
    show _ + (cg lap ts n + 0) = _
    omega
theorem told_sum (g : Good lap ts) : (told lap ts).sum = lap := by
  rw [told_def, cg_sum g, AA_full g (Int.le_refl _)]
theorem told_len : (told lap ts).length = MM lap ts := by
  rw [told_def, List.length_map, rng_len]
theorem told_get {n : Nat} (h : n < MM lap ts) : (told lap ts)[n]? = some (cg lap ts n) := by
  rw [told_def, List.getElem?_map, rng_get h]
  rfl
theorem take_sum (g : Good lap ts) : ∀ k : Nat, ((told lap ts).take k).sum = AA lap ts k
  | 0 => (AA_zero g).symm
  | k + 1 => by
    by_cases h : k < MM lap ts
    · rw [take_sum_succ (told_get h), take_sum g k]
      have : ((k + 1 : Nat) : Int) = (k : Int) + 1 := Int.natCast_add k 1
      rw [this, AA_succ g (Int.natCast_nonneg k)]
    · rw [List.take_of_length_le (by rw [told_len]; omega), told_sum g, AA_full g (by omega)]
theorem drop_sum (g : Good lap ts) (k : Nat) : ((told lap ts).drop k).sum = lap - AA lap ts k := by
  have e := List.take_append_drop k (told lap ts)
  have e2 := congrArg List.sum e
  rw [List.sum_append, take_sum g, told_sum g] at e2
  omega
end
theorem told_sub {lap : Int} {a b : List Int} (ga : Good lap a) (gb : Good lap b) (h : ∀ t ∈ a, t ∈ b) (k : Nat) : ¬ ((told lap a).drop k).sum < ((told lap b).drop k).sum := by
  rw [drop_sum ga, drop_sum gb]
  have := AA_mono ga gb h k
  omega
theorem told_bd {lap : Int} {a : List Int} (ga : Good lap a) : (told lap a).length ≤ 1440 ∧ ∀ x ∈ told lap a, 0 ≤ x ∧ x ≤ 60 := by
  obtain ⟨h1, h2, h3, h4, h5⟩ := max_facts ga
  have h6 := ga.l2
  refine ⟨by rw [told_len]; omega, fun x hx => ?_⟩
  obtain ⟨k, _, rfl⟩ := List.mem_map.mp hx
  have h7 := List.length_filter_le (fun g => decide (g > k)) (gaps lap a)
  rw [gaps_len lap a ga.ne] at h7
  have := ga.le
  omega
theorem worst_sub {lap : Int} {a b : List Int} (ga : Good lap a) (gb : Good lap b) (h : ∀ t ∈ a, t ∈ b) : ¬ (worst lap a).1 < (worst lap b).1 := by
  obtain ⟨_, _, _, _, ea⟩ := max_facts ga
  obtain ⟨_, _, _, _, eb⟩ := max_facts gb
  obtain ⟨m, h1, h2, h3⟩ := wait_top gb
  have h4 := wait_sub (lap := lap) ga.ne gb.ne h m
  have h5 := wait_lt ga h1 h2
  show ¬ maxI (gaps lap a) - 1 < maxI (gaps lap b) - 1
  omega
/-! ### half_wait -/
theorem half_go {lap x y : Int} {ts : List Int} (g : Good lap ts) : ∀ (d n : Nat), n + d = MM lap ts →
    (∃ j : Nat, n ≤ j ∧ j < MM lap ts ∧ halfGo x y lap ((told lap ts).drop n) n (AA lap ts n) = j ∧ AA lap ts (j + 1) * y ≥ x * lap ∧ ∀ i : Nat, n ≤ i → i < j → AA lap ts (i + 1) * y < x * lap) ∨ (∀ i : Nat, n ≤ i → i < MM lap ts → AA lap ts (i + 1) * y < x * lap)
  | 0, n, h => .inr fun i h1 h2 => by omega
  | d + 1, n, h => by
    have hn : n < MM lap ts := by omega
    rw [drop_cons (told_get hn)]
    unfold halfGo
    rw [← AA_succ g (Int.natCast_nonneg n)]
    by_cases hc : AA lap ts (n + 1) * y ≥ x * lap
    · rw [if_pos hc]
      exact .inl ⟨n, Nat.le_refl _, hn, rfl, hc, fun i h1 h2 => by omega⟩
    · rw [if_neg hc]
      have ih := half_go (x := x) (y := y) g d (n + 1) (by omega)
      have e : ((n + 1 : Nat) : Int) = (n : Int) + 1 := Int.natCast_add n 1
      rw [e] at ih
      rcases ih with ⟨j, h1, h2, h3, h4, h5⟩ | h5
      · refine .inl ⟨j, by omega, h2, h3, h4, fun i h6 h7 => ?_⟩
        rcases Nat.lt_or_ge n i with z | z
        · exact h5 i z h7
        · have : i = n := by omega
          rw [this]; omega
      · refine .inr fun i h6 h7 => ?_
        rcases Nat.lt_or_ge n i with z | z
        · exact h5 i z h7
        · have : i = n := by omega
          rw [this]; omega
theorem half_ex {lap x y : Int} {ts : List Int} (g : Good lap ts) (h0 : 0 ≤ x) (h1 : x ≤ y) : ∃ j : Nat, j < MM lap ts ∧ half lap ts x y = j ∧ AA lap ts (j + 1) * y ≥ x * lap ∧ ∀ i : Nat, i < j → AA lap ts (i + 1) * y < x * lap := by
  obtain ⟨_, _, h3, _, h5⟩ := max_facts g
  have hl := g.l1
  rcases half_go (x := x) (y := y) g (MM lap ts) 0 (Nat.zero_add _) with ⟨j, a1, a2, a3, a4, a5⟩ | h
  · refine ⟨j, a2, ?_, a4, fun i hi => a5 i (Nat.zero_le _) hi⟩
    unfold half
    rw [← a3, List.drop_zero]
    have : AA lap ts ((0 : Nat) : Int) = 0 := AA_zero g
    rw [this]
    rfl
  · exfalso
    have := h (MM lap ts - 1) (Nat.zero_le _) (by omega)
    have e : (((MM lap ts - 1 : Nat) : Int) + 1) = MM lap ts := by omega
    rw [e, AA_full g (Int.le_refl _), Int.mul_comm lap y] at this
    have := Int.mul_le_mul_of_nonneg_right h1 (show 0 ≤ lap by omega)
    omega
theorem half_sub {lap x y : Int} {a b : List Int} (ga : Good lap a) (gb : Good lap b) (h : ∀ t ∈ a, t ∈ b) (h0 : 0 ≤ x) (h1 : x ≤ y) (h2 : 0 < y) : ¬ half lap a x y < half lap b x y := by
  obtain ⟨i, _, e1, k1, _⟩ := half_ex ga h0 h1
  obtain ⟨j, _, e2, _, k2⟩ := half_ex gb h0 h1
  rw [e1, e2]
  intro hlt
  have := k2 i (by omega)
  have m := Int.mul_le_mul_of_nonneg_right (AA_mono ga gb h ((i : Int) + 1)) (show 0 ≤ y by omega)
  omega
theorem half_one {lap : Int} {ts : List Int} (g : Good lap ts) : half lap ts 1 1 = (worst lap ts).1 := by
  obtain ⟨_, _, h3, _, h5⟩ := max_facts g
  obtain ⟨j, k1, e, k2, k3⟩ := half_ex g (x := 1) (y := 1) (by decide) (by decide)
  rw [e]
  show (j : Int) = maxI (gaps lap ts) - 1
  rcases Nat.lt_or_ge (j + 1) (MM lap ts) with z | z
  · have := AA_lt g (k := (j : Int) + 1) (by omega)
    omega
  · omega
theorem half_mono {lap : Int} {ts : List Int} (g : Good lap ts) {s t : Int} (h0 : 0 ≤ s) (h1 : s ≤ t) (h2 : t ≤ 12) : half lap ts (fr s 12).1 (fr s 12).2 ≤ half lap ts (fr t 12).1 (fr t 12).2 := by
  have hl := g.l1
  obtain ⟨p1, p2, _, p3, p4⟩ := fr_ok (t := s) (l := 12) h0 (by omega) (by decide) (by decide)
  obtain ⟨q1, q2, _, q3, q4⟩ := fr_ok (t := t) (l := 12) (by omega) (by omega) (by decide) (by decide)
  obtain ⟨u, s', y', hu, es, ey, ef, _⟩ := fr_parts (a := s) (b := 12) (by decide)
  obtain ⟨v, t', z', hv, et, ez, ef2, _⟩ := fr_parts (a := t) (b := 12) (by decide)
  rw [ef] at p1 p2 p3 p4 ⊢
  rw [ef2] at q1 q2 q3 q4 ⊢
  obtain ⟨i, _, e1, k1, k2⟩ := half_ex g p3 p4
  obtain ⟨j, _, e2, k3, _⟩ := half_ex g q3 q4
  show half lap ts s' y' ≤ half lap ts t' z'
  have e1 : half lap ts s' y' = i := e1
  have e2 : half lap ts t' z' = j := e2
  rw [e1, e2]
  rcases Nat.lt_or_ge j i with z | z
  · exfalso
    have a := k2 j z
    have a : AA lap ts (j + 1) * y' < s' * lap := a
    have b : AA lap ts (j + 1) * z' ≥ t' * lap := k3
    have a2 := Int.mul_lt_mul_of_pos_left a hu
    have b2 := Int.mul_le_mul_of_nonneg_left b (show 0 ≤ v by omega)
    have c1 : u * (AA lap ts (j + 1) * y') = AA lap ts (j + 1) * 12 := by rw [ey, Int.mul_left_comm]
    have c2 : u * (s' * lap) = s * lap := by rw [es, Int.mul_assoc]
    have c3 : v * (AA lap ts (j + 1) * z') = AA lap ts (j + 1) * 12 := by rw [ez, Int.mul_left_comm]
    have c4 : v * (t' * lap) = t * lap := by rw [et, Int.mul_assoc]
    rw [c1, c2] at a2
    rw [c3, c4] at b2
    have := Int.mul_le_mul_of_nonneg_right h1 (show 0 ≤ lap by omega)
    omega
  · omega
end S18

namespace S18
open PySem
open AL (rng rng_mem rng_len rng_succ rng_get dI)
def wsum (lap : Int) (ts : List Int) : Int := ((told lap ts).zipIdx.map fun p => (p.2 : Int) * p.1).sum
def WS (lap : Int) (ts : List Int) : Int := ((rng lap.toNat).map fun m => waitBy lap ts m).sum
theorem SS_two : ∀ n : Nat, ((rng n).map fun k => 2 * k).sum = (n : Int) * (n - 1)
  | 0 => rfl
  | n + 1 => by
    rw [rng_succ, List.map_append, List.sum_append, SS_two n]
    show _ + (2 * (n : Int) + 0) = _
    have : ((n + 1 : Nat) : Int) = (n : Int) + 1 := Int.natCast_add n 1
    rw [this, Int.add_sub_cancel, Int.add_mul, Int.one_mul, Int.mul_sub]
    omega
theorem sq_eq {lap : Int} {ts : List Int} (g : Good lap ts) : sq (gaps lap ts) = 2 * WS lap ts := by
  have e := core g (fun k => 2 * k)
  rw [sum_cmul] at e
  unfold sq WS
  rw [e]
  refine map_sum_congr fun x hx => ?_
  have hb := gap_bd (ts := ts) (show 0 < lap by have := g.l1; omega) x hx
  unfold SS
  rw [SS_two, Int.toNat_of_nonneg hb.1]
theorem WS_bd {lap : Int} {ts : List Int} (g : Good lap ts) : 0 ≤ WS lap ts ∧ WS lap ts ≤ 1440 * 1440 := by
  have h1 := g.l1
  have h2 := g.l2
  constructor
  · exact sum_nn fun m _ => (wait_rg (lap := lap) (by omega) g.ne m).1
  · have := sum_le (xs := rng lap.toNat) (f := fun m => waitBy lap ts m) (g := fun _ => 1440 * 1) fun m _ => by
      have := wait_rg (lap := lap) (by omega) g.ne m
      omega
    rw [sum_cmul, sum_ones, rng_len] at this
    unfold WS
    omega
theorem mean_sub {lap : Int} {a b : List Int} (ga : Good lap a) (gb : Good lap b) (h : ∀ t ∈ a, t ∈ b) : ¬ ltP (meanP lap a) (meanP lap b) := by
  have h1 := ga.l1
  unfold meanP
  refine fr_lt (by omega) (by omega) ?_
  rw [sq_eq ga, sq_eq gb]
  have : WS lap b ≤ WS lap a := sum_le fun m _ => wait_sub ga.ne gb.ne h m
  have := Int.mul_le_mul_of_nonneg_right (show 2 * WS lap b ≤ 2 * WS lap a by omega) (show 0 ≤ 2 * lap by omega)
  omega
theorem zip_sum (c : Int → Int) : ∀ n : Nat, (((rng n).map c).zipIdx.map fun p => (p.2 : Int) * p.1).sum = ((rng n).map fun k => k * c k).sum
  | 0 => rfl
  | n + 1 => by
    rw [rng_succ, List.map_append, List.zipIdx_append, List.map_append, List.sum_append, zip_sum c n, List.map_append, List.sum_append, List.length_map, rng_len]
    show _ + (((0 + n : Nat) : Int) * c n + 0) = _ + ((n : Int) * c n + 0)
    rw [Nat.zero_add]
theorem wsum_eq {lap : Int} {ts : List Int} (g : Good lap ts) : wsum lap ts = WS lap ts := by
  have h : ∀ n : Nat, ((rng n).map fun k => k * cg lap ts k).sum = ((rng lap.toNat).map fun m => if waitBy lap ts m < n then waitBy lap ts m else 0).sum := by
    intro n
    induction n with
    | zero =>
      have hz : ∀ m ∈ rng lap.toNat, (if waitBy lap ts m < ((0 : Nat) : Int) then waitBy lap ts m else 0) = 0 * 1 := fun m _ => by
        have := wait_rg (lap := lap) (by have := g.l1; omega) g.ne m
        rw [if_neg (by omega)]
        rfl
      rw [map_sum_congr hz, sum_cmul]
      show (0 : Int) = _
      omega
    | succ n ih =>
      rw [rng_succ, List.map_append, List.sum_append, ih]
      show _ + ((n : Int) * cg lap ts n + 0) = _
      rw [Int.add_zero, cg_eq g (Int.natCast_nonneg n), ← sum_cmul, ← sum_add]
      refine map_sum_congr fun m _ => ?_
      have e : ((n + 1 : Nat) : Int) = (n : Int) + 1 := Int.natCast_add n 1
      rw [e]
      unfold ind
      by_cases h1 : waitBy lap ts m < n
      · rw [if_pos h1, if_neg (by omega), if_pos (by omega)]; omega
      · by_cases h2 : waitBy lap ts m = n
        · rw [if_neg h1, if_pos h2, if_pos (by omega)]; omega
        · rw [if_neg h1, if_neg h2, if_neg (by omega)]; omega
  unfold wsum
  rw [told_def, zip_sum, h]
  unfold WS
  refine map_sum_congr fun m hm => ?_
  have := rng_mem.mp hm
  rw [if_pos (wait_lt g (by omega) (by omega))]
theorem mean_told {lap : Int} {ts : List Int} (g : Good lap ts) : meanP lap ts = fr (wsum lap ts) lap ∧ 0 ≤ wsum lap ts ∧ wsum lap ts < 2 ^ 60 := by
  have h1 := g.l1
  have hb := WS_bd g
  rw [wsum_eq g]
  refine ⟨?_, hb.1, by omega⟩
  unfold meanP
  rw [sq_eq g]
  refine fr_cross (by omega) (by omega) ?_
  rw [Int.mul_comm 2 (WS lap ts), Int.mul_assoc]
theorem chainG_pos : ∀ (ts : List Int) (s : Int), (s :: ts).Pairwise (· < ·) → ∀ g ∈ chainG s ts, 0 < g
  | [], _, _, g, h => by cases h
  | t :: ts, s, h, g, hg => by
    obtain ⟨h1, h2⟩ := List.pairwise_cons.mp h
    rcases List.mem_cons.mp hg with z | z
    · have := h1 t List.mem_cons_self
      omega
    · exact chainG_pos ts t h2 g z
theorem chain_asc {lap t0 : Int} {rest : List Int} (g : Good lap (t0 :: rest)) : (t0 :: (rest ++ [t0 + lap])).Pairwise (· < ·) := by
  have hl := g.l1
  obtain ⟨a1, a2⟩ := List.pairwise_cons.mp g.asc
  have h0 := g.rg t0 List.mem_cons_self
  refine List.pairwise_cons.mpr ⟨fun u hu => ?_, List.pairwise_append.mpr ⟨a2, List.pairwise_singleton _ _, fun u hu v hv => ?_⟩⟩
  · rcases List.mem_append.mp hu with z | z
    · exact a1 u z
    · rw [List.mem_singleton.mp z]; omega
  · rw [List.mem_singleton.mp hv]
    have := g.rg u (List.mem_cons_of_mem _ hu)
    omega
theorem gaps_pos {lap : Int} {ts : List Int} (g : Good lap ts) : ∀ x ∈ gaps lap ts, 0 < x := by
  obtain ⟨t0, rest, rfl⟩ : ∃ t0 rest, ts = t0 :: rest := by
    cases ts with
    | nil => exact absurd g.ne (by simp)
    | cons a b => exact ⟨a, b, rfl⟩
  rw [gaps_chain g]
  exact chainG_pos _ _ (chain_asc g)
theorem told_head {lap : Int} {ts : List Int} (g : Good lap ts) : 0 < (told lap ts).length ∧ (told lap ts).getD 0 0 = ts.length := by
  obtain ⟨_, _, h3, _, h5⟩ := max_facts g
  refine ⟨by rw [told_len]; omega, ?_⟩
  rw [List.getD_eq_getElem?_getD, told_get (n := 0) (by omega)]
  show cg lap ts 0 = _
  unfold cg
  rw [List.filter_eq_self.mpr fun x hx => decide_eq_true (gaps_pos g x hx), gaps_len lap ts g.ne]
theorem told_desc {lap : Int} {ts : List Int} (g : Good lap ts) : (told lap ts).Pairwise (· ≥ ·) := by
  rw [told_def]
  refine List.pairwise_map.mpr ((rng_sorted _).imp fun {a b} hab => ?_)
  show cg lap ts b ≤ cg lap ts a
  unfold cg
  rw [filter_len, filter_len]
  refine sum_le fun x _ => ?_
  by_cases h : x > b
  · rw [if_pos (decide_eq_true h), if_pos (decide_eq_true (show x > a by omega))]
    exact Int.le_refl _
  · rw [if_neg (by simp; omega)]
    split <;> decide
/-! ### lists by a sequence -/
theorem rng_cons (n : Nat) : rng (n + 1) = 0 :: (rng n).map fun k => k + 1 := by
  unfold rng
  rw [List.range_succ_eq_map, List.map_cons, List.map_map, List.map_map]
  congr 1
theorem chain_seq (e : Int → Int) : ∀ (n : Nat) (s : Int), chainG (e s) ((rng n).map fun k => e (s + 1 + k)) = (rng n).map fun k => e (s + k + 1) - e (s + k)
  | 0, _ => rfl
  | n + 1, s => by
    rw [rng_cons, List.map_cons, List.map_cons, List.map_map, List.map_map]
    have ih := chain_seq e n (s + 1)
    show (e (s + 1 + 0) - e s) :: chainG (e (s + 1 + 0)) _ = _
    rw [Int.add_zero, Int.add_zero]
    congr 1
    have e1 : (List.map ((fun k => e (s + 1 + k)) ∘ fun k => k + 1) (rng n)) = (rng n).map fun k => e (s + 1 + 1 + k) := List.map_congr_left fun k _ => by
      show e (s + 1 + (k + 1)) = _
      congr 1
      omega
    have e2 : (List.map ((fun k => e (s + k + 1) - e (s + k)) ∘ fun k => k + 1) (rng n)) = (rng n).map fun k => e (s + 1 + k + 1) - e (s + 1 + k) := List.map_congr_left fun k _ => by
      show e (s + (k + 1) + 1) - e (s + (k + 1)) = _
      rw [show s + (k + 1) + 1 = s + 1 + k + 1 by omega, show s + (k + 1) = s + 1 + k by omega]
    rw [e1, e2, ih]
theorem seq_gaps {lap : Int} {e : Int → Int} {n : Nat} (hn : 0 < n) (g : Good lap ((rng n).map e)) (hl : e n = e 0 + lap) : gaps lap ((rng n).map e) = (rng n).map fun k => e (k + 1) - e k := by
  obtain ⟨m, rfl⟩ : ∃ m, n = m + 1 := ⟨n - 1, by omega⟩
  have e1 : (rng (m + 1)).map e = e 0 :: (rng m).map fun k => e (0 + 1 + k) := by
    rw [rng_cons, List.map_cons, List.map_map]
    congr 1
    refine List.map_congr_left fun k _ => ?_
    show e (k + 1) = e (0 + 1 + k)
    congr 1
    omega
  rw [e1] at g ⊢
  rw [gaps_chain g, ← hl]
  have e2 : ((rng m).map fun k => e (0 + 1 + k)) ++ [e ((m + 1 : Nat) : Int)] = (rng (m + 1)).map fun k => e (0 + 1 + k) := by
    rw [rng_succ, List.map_append]
    congr 1
    show [_] = [_]
    congr 2
    have : ((m + 1 : Nat) : Int) = (m : Int) + 1 := Int.natCast_add m 1
    omega
  rw [e2, chain_seq e (m + 1) 0]
  refine List.map_congr_left fun k _ => ?_
  rw [Int.zero_add]
theorem seq_good {lap : Int} {e : Int → Int} {n : Nat} (h1 : 1 ≤ lap) (h2 : lap ≤ 1440) (hn : 0 < n) (hn2 : n ≤ 60) (hi : ∀ k : Int, 0 ≤ k → k < (n : Int) → e k < e (k + 1)) (h0 : 0 ≤ e 0) (hl : e n = e 0 + lap) (hlast : ∀ k : Int, 0 ≤ k → k < (n : Int) → e k < lap) : Good lap ((rng n).map e) := by
  have mono : ∀ (d : Nat) (k : Int), 0 ≤ k → k + d ≤ n → 0 < d → e k < e (k + d) := by
    intro d
    induction d with
    | zero => intro k _ _ h; omega
    | succ d ih =>
      intro k hk hkd _
      have e3 : k + ((d + 1 : Nat) : Int) = k + d + 1 := by
        have : ((d + 1 : Nat) : Int) = (d : Int) + 1 := Int.natCast_add d 1
        omega
      rw [e3]
      have a := hi (k + d) (by omega) (by omega)
      rcases Nat.eq_zero_or_pos d with z | z
      · rw [z] at a ⊢
        simpa using a
      · have := ih k hk (by omega) z
        omega
  refine ⟨h1, h2, by rw [List.length_map, rng_len]; exact hn, by rw [List.length_map, rng_len]; exact hn2, fun t ht => ?_, ?_⟩
  · obtain ⟨k, hk, rfl⟩ := List.mem_map.mp ht
    have hk := rng_mem.mp hk
    refine ⟨?_, hlast k hk.1 hk.2⟩
    rcases Int.lt_or_eq_of_le hk.1 with z | z
    · have := mono k.toNat 0 (Int.le_refl 0) (by omega) (by omega)
      have e4 : (0 : Int) + k.toNat = k := by omega
      rw [e4] at this
      omega
    · rw [← z]; exact h0
  · refine List.pairwise_map.mpr (List.Pairwise.imp_of_mem ?_ (rng_sorted n))
    intro a b ha hb hab
    have ha := rng_mem.mp ha
    have hb := rng_mem.mp hb
    have := mono (b - a).toNat a ha.1 (by omega) (by omega)
    have e4 : a + ((b - a).toNat : Int) = b := by omega
    rw [e4] at this
    exact this
theorem enough_ok {lap most : Int} (h1 : 1 ≤ lap) (h2 : lap ≤ 1440) (h3 : 0 ≤ most) (h4 : (lap + most) / (most + 1) ≤ 60) : Good lap (evens lap ((lap + most) / (most + 1))) ∧ maxI (gaps lap (evens lap ((lap + most) / (most + 1)))) ≤ most + 1 := by
  obtain ⟨_, a1, a2⟩ := enough_num h1 h3
  have hp : 0 < most + 1 := by omega
  have e2 := Int.emod_add_mul_ediv (lap + most) (most + 1)
  have l3 := Int.emod_nonneg (lap + most) (show most + 1 ≠ 0 by omega)
  have l4 := Int.emod_lt_of_pos (lap + most) hp
  generalize (lap + most) / (most + 1) = n at *
  have hcov : lap ≤ n * (most + 1) := by rw [Int.mul_comm] at e2; omega
  have hn : ((n.toNat : Nat) : Int) = n := Int.toNat_of_nonneg (by omega)
  have step : ∀ k : Int, k * lap / n + 1 ≤ (k + 1) * lap / n ∧ (k + 1) * lap / n ≤ k * lap / n + (most + 1) := by
    intro k
    have d1 := Int.emod_add_mul_ediv (k * lap) n
    have d2 := Int.emod_nonneg (k * lap) (show n ≠ 0 by omega)
    have d3 := Int.emod_lt_of_pos (k * lap) (show 0 < n by omega)
    constructor
    · refine (Int.le_ediv_iff_mul_le (by omega)).mpr ?_
      rw [Int.add_mul, Int.add_mul, Int.one_mul, Int.one_mul, Int.mul_comm (k * lap / n) n]
      omega
    · have : (k + 1) * lap / n < k * lap / n + (most + 1) + 1 := by
        refine Int.ediv_lt_of_lt_mul (by omega) ?_
        rw [Int.add_mul, Int.one_mul, Int.add_mul, Int.add_mul, Int.one_mul, Int.mul_comm (k * lap / n) n, Int.mul_comm (most + 1) n]
        omega
      omega
  have e0 : 0 * lap / n = 0 := by rw [Int.zero_mul, Int.zero_ediv]
  have en : n * lap / n = lap := Int.mul_ediv_cancel_left lap (by omega)
  have hg : Good lap (evens lap n) := by
    refine seq_good h1 h2 (by omega) (by omega) (fun k _ _ => by have := (step k).1; omega) (by omega) ?_ fun k hk1 hk2 => ?_
    · rw [hn, en, e0, Int.zero_add]
    · refine Int.ediv_lt_of_lt_mul (by omega) ?_
      rw [Int.mul_comm lap n]
      exact Int.mul_lt_mul_of_pos_right (by omega) (by omega)
  refine ⟨hg, ?_⟩
  have eg := seq_gaps (lap := lap) (e := fun k => k * lap / n) (n := n.toNat) (by omega) hg (by show ((n.toNat : Nat) : Int) * lap / n = 0 * lap / n + lap; rw [hn, en, e0, Int.zero_add])
  have hm := (maxI_spec (gaps_ne (lap := lap) hg.ne)).1
  rw [show gaps lap (evens lap n) = _ from eg] at hm
  obtain ⟨k, _, e⟩ := List.mem_map.mp hm
  have := (step k).2
  rw [show gaps lap (evens lap n) = _ from eg, ← e]
  show (k + 1) * lap / n - k * lap / n ≤ most + 1
  omega
end S18

namespace S18
open PySem
open AL (rng rng_mem rng_len rng_succ rng_get dI)
theorem even_lap {g m : Int} (h1 : 0 ≤ g) (h2 : g < 20) (h3 : 0 ≤ m) (h4 : m < 15) : 2 ≤ (1 + g) * (2 * (1 + m)) ∧ (1 + g) * (2 * (1 + m)) ≤ 600 := by
  have a := Int.mul_le_mul (show 1 + g ≤ 20 by omega) (show 2 * (1 + m) ≤ 30 by omega) (by omega) (by decide)
  have b := Int.mul_le_mul (show 1 ≤ 1 + g by omega) (show 2 ≤ 2 * (1 + m) by omega) (by decide) (by omega)
  omega
theorem fst_mem_zip {xs : List Int} {x : Int × Nat} (h : x ∈ xs.zipIdx) : x.1 ∈ xs := by
  obtain ⟨i, hi, e⟩ := List.getElem_of_mem h
  rw [List.getElem_zipIdx] at e
  rw [← e]
  exact List.getElem_mem _
theorem desc_one {l m : List Int} (h : l.Perm m) (h1 : l.Pairwise (· ≥ ·)) (h2 : m.Pairwise (· ≥ ·)) : l = m := by
  have e := sorted_one l.reverse m.reverse ((List.reverse_perm l).trans (h.trans (List.reverse_perm m).symm)) (List.pairwise_reverse.mpr h1) (List.pairwise_reverse.mpr h2)
  have := congrArg List.reverse e
  rwa [List.reverse_reverse, List.reverse_reverse] at this
theorem eqv_dI (ns : List Int) : (PyData.list (dI ns)).eqv (.list (dI ns)) = true := PySem.SeqAt.eqv_refl (.list (dI ns)) (canAll_dI ns)
theorem eqv_prD (p : Int × Int) : (prD p).eqv (prD p) = true := PySem.SeqAt.eqv_refl (prD p) rfl
def evenT (gap many begin : Int) : List Int := (rng many.toNat).map fun k => begin + gap * k
theorem step_dI (ns : List Int) : AL.stepV (dI ns) = dI (AL.stepV ns) := by
  unfold AL.stepV
  rw [dI_len]
  show _ = List.map PyData.int _
  rw [List.map_filterMap]
  congr 1
  funext m
  show (List.map PyData.int ns)[2 * m]? = _
  rw [List.getElem?_map]
structure Ev3 (gap many begin : Int) : Prop where
  g1 : 1 ≤ gap
  g2 : gap ≤ 20
  m : ∃ k : Int, many = 2 * k ∧ 1 ≤ k ∧ k ≤ 15
  b1 : 0 ≤ begin
  b2 : begin < gap
theorem seq_const {lap d : Int} {e : Int → Int} {n : Nat} (hn : 0 < n) (h1 : 1 ≤ lap) (h2 : lap ≤ 1440) (hn2 : n ≤ 60) (hd0 : 0 < d) (hd : ∀ k, e (k + 1) = e k + d) (h0 : 0 ≤ e 0) (h0d : e 0 < d) (hl : lap = n * d) :
    Good lap ((rng n).map e) ∧ gaps lap ((rng n).map e) = (rng n).map (fun _ => d) ∧ meanP lap ((rng n).map e) = fr (d - 1) 2 ∧ maxI (gaps lap ((rng n).map e)) = d := by
  have lin : ∀ k : Nat, e k = e 0 + k * d := by
    intro k
    induction k with
    | zero => show e 0 = _; omega
    | succ k ih =>
      have e1 : ((k + 1 : Nat) : Int) = (k : Int) + 1 := Int.natCast_add k 1
      rw [e1, hd, ih, Int.add_mul, Int.one_mul]
      omega
  have hg : Good lap ((rng n).map e) := by
    refine seq_good h1 h2 hn hn2 (fun k _ _ => by rw [hd]; omega) h0 (by rw [lin n, ← hl]) fun k hk1 hk2 => ?_
    have e1 : ((k.toNat : Nat) : Int) = k := Int.toNat_of_nonneg hk1
    have := lin k.toNat
    rw [e1] at this
    rw [this, hl]
    have := Int.mul_le_mul_of_nonneg_right (show k + 1 ≤ n by omega) (show 0 ≤ d by omega)
    rw [Int.add_mul, Int.one_mul] at this
    omega
  have hgaps : gaps lap ((rng n).map e) = (rng n).map (fun _ => d) := by
    rw [seq_gaps hn hg (by rw [lin n, ← hl])]
    refine List.map_congr_left fun k _ => ?_
    rw [hd]
    omega
  refine ⟨hg, hgaps, ?_, ?_⟩
  · unfold meanP
    rw [hgaps]
    unfold sq
    rw [List.map_map]
    have : (List.map ((fun g => g * (g - 1)) ∘ fun _ => d) (rng n)).sum = n * (d * (d - 1)) := by
      have := sum_cmul (rng n) (d * (d - 1)) (fun _ => 1)
      rw [sum_ones, rng_len] at this
      rw [Int.mul_comm, ← this]
      refine map_sum_congr fun k _ => ?_
      show d * (d - 1) = d * (d - 1) * 1
      rw [Int.mul_one]
    rw [this]
    refine fr_cross (by omega) (by decide) ?_
    rw [hl]
    ac_rfl
  · refine (maxI_eq ?_ fun y hy => ?_).symm
    · rw [hgaps]
      exact List.mem_map.mpr ⟨0, rng_mem.mpr (by omega), rfl⟩
    · rw [hgaps] at hy
      obtain ⟨k, _, rfl⟩ := List.mem_map.mp hy
      exact Int.le_refl _
theorem fm_some {α : Type} {f : Nat → Option α} {g : Nat → α} : ∀ l : List Nat, (∀ x ∈ l, f x = some (g x)) → l.filterMap f = l.map g
  | [], _ => rfl
  | x :: l, h => by
    rw [List.filterMap_cons, h x List.mem_cons_self, List.map_cons, fm_some l fun y hy => h y (List.mem_cons_of_mem _ hy)]
theorem even_facts {gap many begin : Int} (e : Ev3 gap many begin) : Good (gap * many) (evenT gap many begin) ∧ meanP (gap * many) (evenT gap many begin) = fr (gap - 1) 2 ∧ Good (gap * many) (AL.stepV (evenT gap many begin)) ∧ meanP (gap * many) (AL.stepV (evenT gap many begin)) = fr (2 * gap - 1) 2 ∧
    meanP (gap * many) (evens (gap * many) many) = fr (gap - 1) 2 ∧ worst (gap * many) (evenT gap many begin) = (gap - 1, if gap > 1 then (begin + 1) % gap else 0) := by
  obtain ⟨g1, g2, ⟨k, hk, k1, k2⟩, b1, b2⟩ := e
  have hlap : 1 ≤ gap * many ∧ gap * many ≤ 1440 := by
    have a := Int.mul_le_mul g2 (show many ≤ 30 by omega) (by omega) (by decide)
    have b := Int.mul_le_mul g1 (show 2 ≤ many by omega) (by decide) (by omega)
    omega
  have hn : ((many.toNat : Nat) : Int) = many := Int.toNat_of_nonneg (by omega)
  have A := seq_const (lap := gap * many) (d := gap) (e := fun k => begin + gap * k) (n := many.toNat) (by omega) hlap.1 hlap.2 (by omega) (by omega) (fun k => by show begin + gap * (k + 1) = begin + gap * k + gap; rw [Int.mul_add]; omega) (by show 0 ≤ begin + gap * 0; omega) (by show begin + gap * 0 < gap; omega) (by rw [hn, Int.mul_comm])
  have hk' : ((k.toNat : Nat) : Int) = k := Int.toNat_of_nonneg (by omega)
  have est : AL.stepV (evenT gap many begin) = (rng k.toNat).map fun j => begin + 2 * gap * j := by
    unfold AL.stepV evenT
    have el : ((List.map (fun k => begin + gap * k) (rng many.toNat)).length + 1) / 2 = k.toNat := by
      rw [List.length_map, rng_len]
      omega
    rw [el, fm_some (g := fun m => begin + 2 * gap * (m : Int)) (List.range k.toNat) fun m hm => ?_]
    · show _ = List.map _ (List.map _ _)
      rw [List.map_map]
      rfl
    · have hm := List.mem_range.mp hm
      rw [List.getElem?_map, rng_get (by omega)]
      show some (begin + gap * ((2 * m : Nat) : Int)) = _
      congr 2
      have : ((2 * m : Nat) : Int) = 2 * (m : Int) := Int.natCast_mul 2 m
      rw [this]
      ac_rfl
  have B := seq_const (lap := gap * many) (d := 2 * gap) (e := fun j => begin + 2 * gap * j) (n := k.toNat) (by omega) hlap.1 hlap.2 (by omega) (by omega) (fun j => by show begin + 2 * gap * (j + 1) = begin + 2 * gap * j + 2 * gap; rw [Int.mul_add]; omega) (by show 0 ≤ begin + 2 * gap * 0; omega) (by show begin + 2 * gap * 0 < 2 * gap; omega) (by rw [hk', hk]; ac_rfl)
  have eev : evens (gap * many) many = (rng many.toNat).map fun j => 0 + gap * j := by
    unfold evens
    refine List.map_congr_left fun j _ => ?_
    have : j * (gap * many) = many * (gap * j) := by ac_rfl
    rw [this, Int.mul_ediv_cancel_left _ (by omega), Int.zero_add]
  have C := seq_const (lap := gap * many) (d := gap) (e := fun k => 0 + gap * k) (n := many.toNat) (by omega) hlap.1 hlap.2 (by omega) (by omega) (fun k => by show 0 + gap * (k + 1) = 0 + gap * k + gap; rw [Int.mul_add]; omega) (by show 0 ≤ 0 + gap * 0; omega) (by show 0 + gap * 0 < gap; omega) (by rw [hn, Int.mul_comm])
  rw [est, eev]
  refine ⟨A.1, A.2.2.1, B.1, B.2.2.1, C.2.2.1, ?_⟩
  obtain ⟨A1, A2, _, A4⟩ := A
  replace A2 : gaps (gap * many) (evenT gap many begin) = (rng many.toNat).map (fun _ => gap) := A2
  replace A4 : maxI (gaps (gap * many) (evenT gap many begin)) = gap := A4
  have hlen : (evenT gap many begin).length = many.toNat := by unfold evenT; rw [List.length_map, rng_len]
  unfold worst
  rw [A4]
  have hfil : (((gaps (gap * many) (evenT gap many begin)).zip (evenT gap many begin)).filter fun p => decide (p.1 = gap)) = (gaps (gap * many) (evenT gap many begin)).zip (evenT gap many begin) := by
    refine List.filter_eq_self.mpr fun p hp => decide_eq_true ?_
    have := (List.of_mem_zip (show (p.1, p.2) ∈ _ from hp)).1
    rw [A2] at this
    obtain ⟨_, _, e⟩ := List.mem_map.mp this
    exact e.symm
  rw [hfil]
  have hmap : (((gaps (gap * many) (evenT gap many begin)).zip (evenT gap many begin)).map fun p => (p.2 + 1) % (gap * many)) = (evenT gap many begin).map fun t => (t + 1) % (gap * many) := by
    have : (fun p : Int × Int => (p.2 + 1) % (gap * many)) = (fun t => (t + 1) % (gap * many)) ∘ Prod.snd := rfl
    rw [this, ← List.map_map, List.map_snd_zip (by rw [A2, List.length_map, rng_len, hlen]; exact Nat.le_refl _)]
  rw [hmap]
  congr 1
  have hlast : begin + gap * (many - 1) + 1 = gap * many - gap + begin + 1 := by rw [Int.mul_sub]; omega
  by_cases hb : begin + 1 = gap
  · have htar : (if gap > 1 then (begin + 1) % gap else 0) = 0 := by
      split
      · rw [hb, Int.emod_self]
      · rfl
    rw [htar]
    refine (minI_eq ?_ fun y hy => ?_).symm
    · refine List.mem_map.mpr ⟨begin + gap * (many - 1), List.mem_map.mpr ⟨many - 1, rng_mem.mpr (by omega), rfl⟩, ?_⟩
      rw [hlast, show gap * many - gap + begin + 1 = gap * many by omega, Int.emod_self]
    · obtain ⟨t, _, rfl⟩ := List.mem_map.mp hy
      exact Int.emod_nonneg _ (by omega)
  · have htar : (if gap > 1 then (begin + 1) % gap else 0) = begin + 1 := by
      rw [if_pos (by omega), Int.emod_eq_of_lt (by omega) (by omega)]
    rw [htar]
    refine (minI_eq ?_ fun y hy => ?_).symm
    · refine List.mem_map.mpr ⟨begin + gap * 0, List.mem_map.mpr ⟨0, rng_mem.mpr (by omega), rfl⟩, ?_⟩
      have := Int.mul_le_mul_of_nonneg_left (show 1 ≤ many by omega) (show 0 ≤ gap by omega)
      rw [Int.mul_zero, Int.add_zero, Int.emod_eq_of_lt (by omega) (by omega)]
    · obtain ⟨t, ht, rfl⟩ := List.mem_map.mp hy
      obtain ⟨j, hj, rfl⟩ := List.mem_map.mp ht
      have hj := rng_mem.mp hj
      have u1 := Int.mul_nonneg (show 0 ≤ gap by omega) hj.1
      have u2 := Int.mul_le_mul_of_nonneg_left (show j ≤ many - 1 by omega) (show 0 ≤ gap by omega)
      show begin + 1 ≤ (begin + gap * j + 1) % (gap * many)
      rw [Int.emod_eq_of_lt (by omega) (by omega)]
      omega
end S18

namespace S18
open PySem
open AL (rng rng_mem rng_len rng_succ rng_get dI)
theorem fr_lt_of {a b c d : Int} (hb : 0 < b) (hd : 0 < d) (h : a * d < c * b) : ltP (fr a b) (fr c d) := by
  obtain ⟨g, a', b', hg, ea, eb, ef, _⟩ := fr_parts (a := a) hb
  obtain ⟨k, c', d', hk, ec, ed, ef2, _⟩ := fr_parts (a := c) hd
  rw [ef, ef2]
  show a' * d' < c' * b'
  have l : a * d = g * k * (a' * d') := by
    rw [ea, ed, Int.mul_assoc g a', Int.mul_left_comm a' k, ← Int.mul_assoc g k]
  have r : c * b = g * k * (c' * b') := by
    rw [ec, eb, Int.mul_assoc k c', Int.mul_left_comm c' g, ← Int.mul_assoc k g, Int.mul_comm k g]
  rw [l, r] at h
  exact Int.lt_of_mul_lt_mul_left h (by have := Int.mul_pos hg hk; omega)
theorem chainG_app : ∀ (l1 : List Int) (s : Int) (l2 : List Int), chainG s (l1 ++ l2) = chainG s l1 ++ chainG (lastD s l1) l2
  | [], _, _ => rfl
  | t :: l1, s, l2 => by
    show (t - s) :: chainG t (l1 ++ l2) = (t - s) :: (chainG t l1 ++ chainG (lastD t l1) l2)
    rw [chainG_app l1 t l2]
theorem sq_app (a b : List Int) : sq (a ++ b) = sq a + sq b := by
  unfold sq
  rw [List.map_append, List.sum_append]
theorem sq_cons (x : Int) (a : List Int) : sq (x :: a) = x * (x - 1) + sq a := by
  unfold sq
  rw [List.map_cons, List.sum_cons]
theorem lastD_seq (e : Int → Int) : ∀ (n : Nat) (s : Int), lastD (e s) ((rng n).map fun k => e (s + 1 + k)) = e (s + n)
  | 0, s => by show e s = e (s + 0); rw [Int.add_zero]
  | n + 1, s => by
    rw [rng_succ, List.map_append]
    show lastD _ (_ ++ [e (s + 1 + n)]) = _
    rw [lastD_snoc]
    congr 1
    have : ((n + 1 : Nat) : Int) = (n : Int) + 1 := Int.natCast_add n 1
    omega
theorem sq_seq {e : Int → Int} {d : Int} (hd : ∀ k, e (k + 1) = e k + d) (n : Nat) (s : Int) : sq (chainG (e s) ((rng n).map fun k => e (s + 1 + k))) = n * (d * (d - 1)) := by
  rw [chain_seq]
  unfold sq
  rw [List.map_map]
  have := sum_cmul (rng n) (d * (d - 1)) (fun _ => 1)
  rw [sum_ones, rng_len] at this
  rw [Int.mul_comm, ← this]
  refine map_sum_congr fun k _ => ?_
  show (e (s + k + 1) - e (s + k)) * (e (s + k + 1) - e (s + k) - 1) = d * (d - 1) * 1
  rw [hd, Int.mul_one, show e (s + k) + d - e (s + k) = d by omega]
theorem best_half : ∀ g : Nat, g < 21 → ∀ r : Nat, r < 21 → ((g : Int) / 2 * ((g : Int) / 2 - 1) + ((g : Int) - (g : Int) / 2) * ((g : Int) - (g : Int) / 2 - 1) ≤ (r : Int) * ((r : Int) - 1) + ((g : Int) - r) * ((g : Int) - r - 1)) := by decide +kernel
def tot (gap many r : Int) : Int := (many - 1) * (gap * (gap - 1)) + (r * (r - 1) + (gap - r) * (gap - r - 1))
theorem rng_split (a b : Nat) (e : Int → Int) : (rng (a + b)).map e = (rng a).map e ++ (rng b).map fun k => e (a + k) := by
  induction b with
  | zero => rw [Nat.add_zero]; show _ = _ ++ []; rw [List.append_nil]
  | succ b ih =>
    rw [show a + (b + 1) = (a + b) + 1 from rfl, rng_succ, List.map_append, ih, rng_succ, List.map_append, List.append_assoc]
    congr 2

theorem more_mean {gap many begin m : Int} (e3 : Ev3 gap many begin) (hg1 : 1 < gap) (hm : m ∈ free (gap * many) (evenT gap many begin)) :
    meanP (gap * many) (sortI (evenT gap many begin ++ [m])) = fr (tot gap many ((m - begin) % gap)) (2 * (gap * many)) := by
  obtain ⟨A1, _⟩ := even_facts e3
  obtain ⟨g1, g2, ⟨k, hk, k1, k2⟩, b1, b2⟩ := e3
  have hlap : 1 ≤ gap * many ∧ gap * many ≤ 1440 := ⟨A1.l1, A1.l2⟩
  have hn : ((many.toNat : Nat) : Int) = many := Int.toNat_of_nonneg (by omega)
  obtain ⟨hm1, hm2⟩ := List.mem_filter.mp hm
  have hm1 := rng_mem.mp hm1
  have hmr : 0 ≤ m ∧ m < gap * many := by omega
  have hm3 : m ∉ evenT gap many begin := by simpa using hm2
  -- e
  have he : ∀ j, (fun j => begin + gap * j) (j + 1) = (fun j => begin + gap * j) j + gap := fun j => by show begin + gap * (j + 1) = begin + gap * j + gap; rw [Int.mul_add]; omega
  generalize hef : (fun j => begin + gap * j) = e at he
  have heT : evenT gap many begin = (rng many.toNat).map e := by rw [← hef]; rfl
  have hev : ∀ j, e j = begin + gap * j := fun j => by rw [← hef]
  have hd1 := Int.emod_add_mul_ediv (m - begin) gap
  have hd2 := Int.emod_nonneg (m - begin) (show gap ≠ 0 by omega)
  have hd3 := Int.emod_lt_of_pos (m - begin) (show 0 < gap by omega)
  generalize hr : (m - begin) % gap = r at *
  generalize hq : (m - begin) / gap = q at *
  have hq1 : -1 ≤ q := by
    rcases Int.lt_or_le q (-1) with z | z
    · have := Int.mul_le_mul_of_nonneg_left (show q ≤ -2 by omega) (show 0 ≤ gap by omega)
      omega
    · exact z
  have hq2 : q < many := by
    rcases Int.lt_or_le q many with z | z
    · exact z
    · have := Int.mul_le_mul_of_nonneg_left z (show 0 ≤ gap by omega)
      omega
  have hr0 : 0 < r := by
    rcases Int.lt_or_eq_of_le hd2 with z | z
    · exact z
    · exfalso
      rcases Int.lt_or_eq_of_le hq1 with z2 | z2
      · apply hm3
        rw [heT]
        exact List.mem_map.mpr ⟨q, rng_mem.mpr (by omega), by rw [hev]; omega⟩
      · rw [← z2] at hd1
        omega
  -- the list in order
  have hlen : ∀ L : List Int, L.Perm (evenT gap many begin ++ [m]) → L.Pairwise (· < ·) → Good (gap * many) L ∧ sortI (evenT gap many begin ++ [m]) = L := by
    intro L hp hs
    have hl := hp.length_eq
    rw [List.length_append, heT, List.length_map, rng_len] at hl
    simp at hl
    refine ⟨⟨hlap.1, hlap.2, by omega, by omega, fun t ht => ?_, hs⟩, (sortI_eq hp (hs.imp fun h => by omega)).symm⟩
    rcases List.mem_append.mp (hp.mem_iff.mp ht) with z | z
    · exact A1.rg t z
    · rw [List.mem_singleton.mp z]; exact hmr
  have hasc := A1.asc
  rw [heT] at hasc
  have fin : ∀ L : List Int, L.Perm (evenT gap many begin ++ [m]) → L.Pairwise (· < ·) → sq (gaps (gap * many) L) = tot gap many r → meanP (gap * many) (sortI (evenT gap many begin ++ [m])) = fr (tot gap many r) (2 * (gap * many)) := by
    intro L hp hs h
    rw [(hlen L hp hs).2]
    unfold meanP
    rw [h]
  rcases Int.lt_or_eq_of_le hq1 with z | z
  · -- between two times, or behind the last one
    obtain ⟨qn, rfl⟩ : ∃ qn : Nat, q = qn := ⟨q.toNat, (Int.toNat_of_nonneg (by omega)).symm⟩
    have hsp : many.toNat = (qn + 1) + (many.toNat - qn - 1) := by omega
    have eT2 : (rng many.toNat).map e = (rng (qn + 1)).map e ++ (rng (many.toNat - qn - 1)).map fun j => e (((qn + 1 : Nat) : Int) + j) := by
      conv => lhs; rw [hsp]
      exact rng_split _ _ e
    have mE : m = e qn + r := by rw [hev]; omega
    have mE2 : e ((qn : Int) + 1) = m + (gap - r) := by rw [he]; omega
    rw [eT2] at hasc
    obtain ⟨s1, s2, s3⟩ := List.pairwise_append.mp hasc
    have lo : ∀ u ∈ (rng (qn + 1)).map e, u < m := by
      intro u hu
      obtain ⟨j, hj, rfl⟩ := List.mem_map.mp hu
      have hj := rng_mem.mp hj
      have := Int.mul_le_mul_of_nonneg_left (show j ≤ qn by omega) (show 0 ≤ gap by omega)
      rw [hev]
      rw [hev] at mE
      omega
    have hi : ∀ u ∈ (rng (many.toNat - qn - 1)).map (fun j => e (((qn + 1 : Nat) : Int) + j)), m < u := by
      intro u hu
      obtain ⟨j, hj, rfl⟩ := List.mem_map.mp hu
      have hj := rng_mem.mp hj
      have := Int.mul_nonneg (show 0 ≤ gap by omega) hj.1
      show m < e (((qn + 1 : Nat) : Int) + j)
      rw [hev, Int.mul_add]
      rw [hev] at mE2
      have : ((qn + 1 : Nat) : Int) = (qn : Int) + 1 := Int.natCast_add qn 1
      rw [this]
      omega
    have hLp : ((rng (qn + 1)).map e ++ m :: (rng (many.toNat - qn - 1)).map fun j => e (((qn + 1 : Nat) : Int) + j)).Perm (evenT gap many begin ++ [m]) := by
      rw [heT, eT2]
      refine List.perm_middle.trans ?_
      exact (List.perm_append_comm (l₁ := [m]) (l₂ := _))
    have hLs : ((rng (qn + 1)).map e ++ m :: (rng (many.toNat - qn - 1)).map fun j => e (((qn + 1 : Nat) : Int) + j)).Pairwise (· < ·) := by
      refine List.pairwise_append.mpr ⟨s1, List.pairwise_cons.mpr ⟨hi, s2⟩, fun u hu v hv => ?_⟩
      rcases List.mem_cons.mp hv with w | w
      · rw [w]; exact lo u hu
      · exact s3 u hu v w
    refine fin _ hLp hLs ?_
    have hgood := (hlen _ hLp hLs).1
    have e1 : (rng (qn + 1)).map e = e 0 :: (rng qn).map fun j => e (0 + 1 + j) := by
      rw [rng_cons, List.map_cons, List.map_map]
      congr 1
      refine List.map_congr_left fun j _ => ?_
      show e (j + 1) = e (0 + 1 + j)
      congr 1
      omega
    rw [e1, List.cons_append] at hgood ⊢
    rw [gaps_chain hgood, List.append_assoc, chainG_app, lastD_seq, List.cons_append, sq_app, sq_seq he, Int.zero_add]
    show (qn : Int) * _ + sq ((m - e qn) :: chainG m _) = _
    have e4 : ((rng (many.toNat - qn - 1)).map fun j => e (((qn + 1 : Nat) : Int) + j)) ++ [e 0 + gap * many] = e ((qn : Int) + 1) :: (rng (many.toNat - qn - 1)).map fun j => e ((qn : Int) + 1 + 1 + j) := by
      have e5 : e 0 + gap * many = e (((qn + 1 : Nat) : Int) + ((many.toNat - qn - 1 : Nat) : Int)) := by
        rw [hev, hev]
        have : ((qn + 1 : Nat) : Int) + ((many.toNat - qn - 1 : Nat) : Int) = many := by omega
        rw [this]
        omega
      have e6 : ((rng (many.toNat - qn - 1)).map fun j => e (((qn + 1 : Nat) : Int) + j)) ++ [e 0 + gap * many] = (rng (many.toNat - qn - 1 + 1)).map fun j => e (((qn + 1 : Nat) : Int) + j) := by
        rw [rng_succ, List.map_append, e5]
        rfl
      rw [e6, rng_cons, List.map_cons, List.map_map]
      have e7 : ((qn + 1 : Nat) : Int) = (qn : Int) + 1 := Int.natCast_add qn 1
      rw [e7, Int.add_zero]
      congr 1
      refine List.map_congr_left fun j _ => ?_
      show e ((qn : Int) + 1 + (j + 1)) = e ((qn : Int) + 1 + 1 + j)
      congr 1
      omega
    rw [e4]
    show (qn : Int) * _ + sq ((m - e qn) :: (e ((qn : Int) + 1) - m) :: chainG (e ((qn : Int) + 1)) _) = _
    rw [sq_cons, sq_cons, sq_seq he, show m - e qn = r by omega, show e ((qn : Int) + 1) - m = gap - r by omega]
    unfold tot
    have e8 : ((many.toNat - qn - 1 : Nat) : Int) = many - 1 - qn := by omega
    rw [e8, Int.sub_mul (many - 1) qn]
    omega
  · -- ahead of the first one
    subst z
    have mE : m = e 0 - (gap - r) := by rw [hev]; omega
    have hLp : (m :: (rng many.toNat).map e).Perm (evenT gap many begin ++ [m]) := by
      rw [heT]
      exact (List.perm_append_comm (l₁ := [m]) (l₂ := _))
    have hLs : (m :: (rng many.toNat).map e).Pairwise (· < ·) := by
      refine List.pairwise_cons.mpr ⟨fun u hu => ?_, hasc⟩
      obtain ⟨j, hj, rfl⟩ := List.mem_map.mp hu
      have hj := rng_mem.mp hj
      have := Int.mul_nonneg (show 0 ≤ gap by omega) hj.1
      rw [hev]
      rw [hev] at mE
      omega
    refine fin _ hLp hLs ?_
    have hgood := (hlen _ hLp hLs).1
    rw [gaps_chain hgood]
    obtain ⟨n1, hn1⟩ : ∃ n1, many.toNat = n1 + 1 := ⟨many.toNat - 1, by omega⟩
    have e1 : (rng many.toNat).map e = e 0 :: (rng n1).map fun j => e (0 + 1 + j) := by
      rw [hn1, rng_cons, List.map_cons, List.map_map]
      congr 1
      refine List.map_congr_left fun j _ => ?_
      show e (j + 1) = e (0 + 1 + j)
      congr 1
      omega
    rw [e1]
    show sq ((e 0 - m) :: chainG (e 0) (_ ++ [m + gap * many])) = _
    rw [sq_cons, chainG_app, lastD_seq, sq_app, sq_seq he, Int.zero_add]
    show _ + (_ + sq [m + gap * many - e n1]) = _
    have e9 : m + gap * many - e n1 = r := by
      rw [hev]
      rw [hev] at mE
      have : (n1 : Int) = many - 1 := by omega
      rw [this, Int.mul_sub]
      omega
    rw [e9, sq_cons, show e 0 - m = gap - r by omega]
    have : (n1 : Int) = many - 1 := by omega
    rw [this]
    unfold tot
    show _ + (_ + (_ + 0)) = _
    omega
theorem even_more {gap many begin : Int} (e : Ev3 gap many begin) (h : 1 < gap) : 0 < (free (gap * many) (evenT gap many begin)).length ∧ ∀ m ∈ free (gap * many) (evenT gap many begin), (∀ n ∈ free (gap * many) (evenT gap many begin), ¬ ltP (meanP (gap * many) (sortI (evenT gap many begin ++ [n]))) (meanP (gap * many) (sortI (evenT gap many begin ++ [m])))) →
    meanP (gap * many) (sortI (evenT gap many begin ++ [m])) = fr ((many - 1) * gap * (gap - 1) + gap / 2 * (gap / 2 - 1) + (gap - gap / 2) * (gap - gap / 2 - 1)) (2 * (gap * many)) := by
  obtain ⟨A1, _⟩ := even_facts e
  have hlap := A1.l1
  have hb1 := e.b1
  have hb2 := e.b2
  have hg2 := e.g2
  obtain ⟨k, hk, k1, k2⟩ := e.m
  have h0 : begin + gap / 2 ∈ free (gap * many) (evenT gap many begin) := by
    have := Int.mul_le_mul_of_nonneg_left (show 2 ≤ many by omega) (show 0 ≤ gap by omega)
    refine List.mem_filter.mpr ⟨rng_mem.mpr (by omega), ?_⟩
    simp only [Bool.not_eq_true', decide_eq_false_iff_not]
    intro hmem
    obtain ⟨j, hj, ej⟩ := List.mem_map.mp hmem
    have hj := rng_mem.mp hj
    have ej : begin + gap * j = begin + gap / 2 := ej
    rcases Int.lt_or_eq_of_le hj.1 with z | z
    · have := Int.mul_le_mul_of_nonneg_left (show 1 ≤ j by omega) (show 0 ≤ gap by omega)
      omega
    · rw [← z] at ej
      omega
  refine ⟨List.length_pos_of_mem h0, fun m hm hall => ?_⟩
  have hmin := hall _ h0
  rw [more_mean e h hm, more_mean e h h0] at hmin
  rw [more_mean e h hm]
  have er : (begin + gap / 2 - begin) % gap = gap / 2 := by
    rw [show begin + gap / 2 - begin = gap / 2 by omega]
    exact Int.emod_eq_of_lt (by omega) (by omega)
  rw [er] at hmin
  have hr0 := Int.emod_nonneg (m - begin) (show gap ≠ 0 by omega)
  have hr1 := Int.emod_lt_of_pos (m - begin) (show 0 < gap by omega)
  generalize (m - begin) % gap = r at *
  have hle := best_half gap.toNat (by omega) r.toNat (by omega)
  have eg : ((gap.toNat : Nat) : Int) = gap := Int.toNat_of_nonneg (by omega)
  have er2 : ((r.toNat : Nat) : Int) = r := Int.toNat_of_nonneg (by omega)
  rw [eg, er2] at hle
  have heq : tot gap many r = tot gap many (gap / 2) := by
    have h1 : tot gap many (gap / 2) ≤ tot gap many r := by
      unfold tot
      omega
    rcases Int.lt_or_eq_of_le h1 with z | z
    · exfalso
      apply hmin
      refine fr_lt_of (by omega) (by omega) ?_
      exact Int.mul_lt_mul_of_pos_right z (by omega)
    · exact z.symm
  rw [heq]
  congr 1
  unfold tot
  rw [Int.mul_assoc (many - 1)]
  omega
end S18

namespace S18
open PySem PySem.Spec PyProof.Rows L2 AL PySem.W
/-! ### rows: what the law's search over numbers of lateness keeps -/
theorem dlt_lt {a b : Int} (xs ys : List PyData) (h : a < b) : dataLt (.tuple (.int a :: xs)) (.tuple (.int b :: ys)) = true := by
  rw [dataLt_tuple, toks_all_cons, toks_all_cons, lex_self]
  show PyProof.Rows.lexLt itemOrd (Sum.inl a :: keyToksAll xs) (Sum.inl b :: keyToksAll ys) = true
  rw [lex_diff (fun e => by cases e; omega)]
  show decide (a < b) = true
  exact decide_eq_true h
theorem dlt_gt {a b : Int} (xs ys : List PyData) (h : b < a) : dataLt (.tuple (.int a :: xs)) (.tuple (.int b :: ys)) = false := by
  rw [dataLt_tuple, toks_all_cons, toks_all_cons, lex_self]
  show PyProof.Rows.lexLt itemOrd (Sum.inl a :: keyToksAll xs) (Sum.inl b :: keyToksAll ys) = false
  rw [lex_diff (fun e => by cases e; omega)]
  show decide (a < b) = false
  exact decide_eq_false (by omega)
def crD (p : Int × List Int) : PyData := .tuple [.int p.1, .list (dI p.2)]
theorem cr_le {p q : Int × List Int} (h : dataLt (crD p) (crD q) = true) : p.1 ≤ q.1 := by
  by_cases z : q.1 < p.1
  · rw [show dataLt (crD p) (crD q) = false from dlt_gt _ _ z] at h; cases h
  · omega
theorem cr_ge {p q : Int × List Int} (h : dataLt (crD p) (crD q) = false) : q.1 ≤ p.1 := by
  by_cases z : p.1 < q.1
  · rw [show dataLt (crD p) (crD q) = true from dlt_lt _ _ z] at h; cases h
  · omega
theorem min_cr : ∀ (zs : List (Int × List Int)) (x : Int × List Int), ∃ m ∈ x :: zs, minD (crD x) (zs.map crD) = crD m ∧ ∀ y ∈ x :: zs, m.1 ≤ y.1
  | [], x => ⟨x, List.mem_cons_self, rfl, fun y hy => by rw [List.mem_singleton.mp hy]; exact Int.le_refl _⟩
  | z :: zs, x => by
    cases e : dataLt (crD z) (crD x) with
    | true =>
      obtain ⟨m, h1, h2, h3⟩ := min_cr zs z
      refine ⟨m, List.mem_cons_of_mem _ h1, ?_, fun y hy => ?_⟩
      · rw [← h2]
        show ((z :: zs).map crD).foldl _ _ = _
        rw [List.map_cons, List.foldl_cons, e]
        rfl
      · have hz := h3 z List.mem_cons_self
        have := cr_le e
        rcases List.mem_cons.mp hy with q | q
        · rw [q]; omega
        · exact h3 y q
    | false =>
      obtain ⟨m, h1, h2, h3⟩ := min_cr zs x
      refine ⟨m, ?_, ?_, fun y hy => ?_⟩
      · rcases List.mem_cons.mp h1 with q | q
        · rw [q]; exact List.mem_cons_self
        · exact List.mem_cons_of_mem _ (List.mem_cons_of_mem _ q)
      · rw [← h2]
        show ((z :: zs).map crD).foldl _ _ = _
        rw [List.map_cons, List.foldl_cons, e]
        rfl
      · have hz := h3 x List.mem_cons_self
        have := cr_ge e
        rcases List.mem_cons.mp hy with q | q
        · rw [q]; exact hz
        · rcases List.mem_cons.mp q with q | q
          · rw [q]; omega
          · exact h3 y (List.mem_cons_of_mem _ q)
theorem alikeAll_dI : ∀ (xs ys : List Int), alikeAll (dI xs) (dI ys) = true
  | [], ys => by cases ys <;> rfl
  | x :: xs, [] => rfl
  | x :: xs, y :: ys => by
    show (true && alikeAll (dI xs) (dI ys)) = true
    rw [alikeAll_dI xs ys]
    rfl
theorem alike_cr (p q : Int × List Int) : alike (crD p) (crD q) = true := by
  show (true && (alikeAll (dI p.2) (dI q.2) && true)) = true
  rw [alikeAll_dI]
  rfl
theorem alike_crs (xs : List (Int × List Int)) : AlikeAll (xs.map crD) := by
  refine ⟨fun x hx y hy => ?_, fun x hx e => ?_⟩
  · obtain ⟨p, _, rfl⟩ := List.mem_map.mp hx
    obtain ⟨q, _, rfl⟩ := List.mem_map.mp hy
    exact alike_cr p q
  · obtain ⟨p, _, rfl⟩ := List.mem_map.mp hx
    cases e
theorem depth_cr (p : Int × List Int) : (crD p).depth = 2 := by
  show max 0 (max (PyData.depthAll (dI p.2) + 1) 0) + 1 = 2
  rw [depthAll_dI]
  rfl
theorem depth_crs : ∀ xs : List (Int × List Int), PyData.depthAll (xs.map crD) ≤ 2
  | [] => Nat.zero_le _
  | x :: xs => by
    show max (crD x).depth (PyData.depthAll (xs.map crD)) ≤ 2
    rw [depth_cr]
    have := depth_crs xs
    omega
/-! ### ways of numbers -/
def pathG : List Int → Int → List Int → List Int
  | g :: gs, c, n :: ns => (g + n - c) :: pathG gs n ns
  | _, _, _ => []
def pc (gs : List Int) (c : Int) (ns : List Int) : Int := sq (pathG gs c ns)
theorem path_snoc : ∀ (gs ns : List Int) (c g n : Int), ns.length = gs.length → pathG (gs ++ [g]) c (ns ++ [n]) = pathG gs c ns ++ [g + n - lastD c ns]
  | [], [], c, g, n, _ => rfl
  | g0 :: gs, n0 :: ns, c, g, n, h => by
    show (g0 + n0 - c) :: pathG (gs ++ [g]) n0 (ns ++ [n]) = _
    rw [path_snoc gs ns n0 g n (by simpa using h)]
    rfl
theorem sq_snoc (xs : List Int) (x : Int) : sq (xs ++ [x]) = sq xs + x * (x - 1) := by
  unfold sq
  rw [List.map_append, List.sum_append]
  simp
theorem pc_snoc {gs ns : List Int} {c g n : Int} (h : ns.length = gs.length) : pc (gs ++ [g]) c (ns ++ [n]) = pc gs c ns + (g + n - lastD c ns) * (g + n - lastD c ns - 1) := by
  unfold pc
  rw [path_snoc gs ns c g n h, sq_snoc]
abbrev Rw := Int × Int × List Int
def enD (e : Rw) : Key × PyData := (.inl e.1, crD e.2)
structure WayTo (choices : List Int) (sign first : Int) (gs : List Int) (e : Rw) : Prop where
  ex : ∃ rest, e.2.2 = first :: rest ∧ rest.length = gs.length ∧ (∀ x ∈ rest, x ∈ choices) ∧ lastD first rest = e.1 ∧ e.2.1 = sign * pc gs first rest
structure RowsOk (choices : List Int) (sign first : Int) (gs : List Int) (rows : List Rw) : Prop where
  a : ∀ e ∈ rows, WayTo choices sign first gs e
  b : ∀ rest, rest.length = gs.length → (∀ x ∈ rest, x ∈ choices) → ∃ e ∈ rows, e.1 = lastD first rest ∧ e.2.1 ≤ sign * pc gs first rest
  c : 0 < rows.length ∧ rows.length ≤ 20
theorem rows_start (choices : List Int) (sign first : Int) : RowsOk choices sign first [] [(first, 0, [first])] := by
  refine ⟨fun e he => ?_, fun rest hl _ => ?_, Nat.le_of_ble_eq_true rfl, Nat.le_of_ble_eq_true rfl⟩
  · rw [List.mem_singleton.mp he]
    exact ⟨[], rfl, rfl, (fun x hx => by cases hx), rfl, (Int.mul_zero _).symm⟩
  · cases rest with
    | nil => exact ⟨_, List.mem_singleton.mpr rfl, rfl, Int.le_of_eq (Int.mul_zero _).symm⟩
    | cons x xs => cases hl
/-- the candidates for one number more -/
def cand (sign g late : Int) (rows : List Rw) : List (Int × List Int) := rows.map fun e => (e.2.1 + sign * ((g + late - e.1) * (g + late - e.1 - 1)), e.2.2)
def putR (rows : List Rw) (k : Int) (p : Int × List Int) : List Rw := if (rows.any fun e => decide (e.1 = k)) = true then rows.map (fun e => if e.1 = k then (k, p) else e) else rows ++ [(k, p)]
theorem putR_mem {rows : List Rw} {k : Int} {p : Int × List Int} {e : Rw} (h : e ∈ putR rows k p) : e = (k, p) ∨ (e ∈ rows ∧ e.1 ≠ k) := by
  unfold putR at h
  by_cases z : (rows.any fun e => decide (e.1 = k)) = true
  · rw [if_pos z] at h
    obtain ⟨e0, h1, h2⟩ := List.mem_map.mp h
    by_cases y : e0.1 = k
    · rw [if_pos y] at h2; exact .inl h2.symm
    · rw [if_neg y] at h2; exact .inr ⟨by rw [← h2]; exact h1, by rw [← h2]; exact y⟩
  · rw [if_neg z] at h
    rcases List.mem_append.mp h with q | q
    · refine .inr ⟨q, fun y => z (List.any_eq_true.mpr ⟨e, q, decide_eq_true y⟩)⟩
    · exact .inl (List.mem_singleton.mp q)
theorem putR_new (rows : List Rw) (k : Int) (p : Int × List Int) : (k, p) ∈ putR rows k p := by
  unfold putR
  by_cases z : (rows.any fun e => decide (e.1 = k)) = true
  · rw [if_pos z]
    obtain ⟨e0, h1, h2⟩ := List.any_eq_true.mp z
    exact List.mem_map.mpr ⟨e0, h1, if_pos (of_decide_eq_true h2)⟩
  · rw [if_neg z]
    exact List.mem_append_right _ (List.mem_singleton.mpr rfl)
theorem putR_old {rows : List Rw} {k : Int} {p : Int × List Int} {e : Rw} (h : e ∈ rows) (hk : e.1 ≠ k) : e ∈ putR rows k p := by
  unfold putR
  by_cases z : (rows.any fun e => decide (e.1 = k)) = true
  · rw [if_pos z]
    exact List.mem_map.mpr ⟨e, h, if_neg hk⟩
  · rw [if_neg z]
    exact List.mem_append_left _ h
theorem putR_len (rows : List Rw) (k : Int) (p : Int × List Int) : (putR rows k p).length ≤ rows.length + 1 ∧ 0 < (putR rows k p).length := by
  refine ⟨?_, List.length_pos_of_mem (putR_new rows k p)⟩
  unfold putR
  by_cases z : (rows.any fun e => decide (e.1 = k)) = true
  · rw [if_pos z, List.length_map]; omega
  · rw [if_neg z, List.length_append]; exact Nat.le_refl _
theorem put_en (rows : List Rw) (k : Int) (p : Int × List Int) : putD (rows.map enD) (.inl k) (crD p) = (putR rows k p).map enD := by
  have e1 : (rows.map enD).any (fun kd => decide (kd.1 = (Sum.inl k : Key))) = rows.any fun e => decide (e.1 = k) := by
    rw [List.any_map]
    congr 1
    funext e
    show decide ((Sum.inl e.1 : Key) = Sum.inl k) = decide (e.1 = k)
    by_cases z : e.1 = k
    · rw [decide_eq_true z, decide_eq_true (by rw [z])]
    · rw [decide_eq_false z, decide_eq_false (fun q => z (Sum.inl.inj q))]
  unfold putD putR
  rw [e1]
  by_cases z : (rows.any fun e => decide (e.1 = k)) = true
  · rw [if_pos z, if_pos z, List.map_map, List.map_map]
    refine List.map_congr_left fun e _ => ?_
    show (if (Sum.inl e.1 : Key) = Sum.inl k then ((Sum.inl e.1 : Key), crD p) else (Sum.inl e.1, crD e.2)) = enD (if e.1 = k then (k, p) else e)
    by_cases y : e.1 = k
    · rw [if_pos (by rw [y]), if_pos y, y]; rfl
    · rw [if_neg (fun q => y (Sum.inl.inj q)), if_neg y]; rfl
  · rw [if_neg z, if_neg z, List.map_append]
    rfl
/-- in the midst of the turn over the choices -/
structure AftOk (choices : List Int) (sign first : Int) (gs : List Int) (g : Int) (done : List Int) (rows : List Rw) : Prop where
  a : ∀ e ∈ rows, WayTo choices sign first (gs ++ [g]) e
  b : ∀ rest, rest.length = gs.length → (∀ x ∈ rest, x ∈ choices) → ∀ x ∈ done, ∃ e ∈ rows, e.1 = x ∧ e.2.1 ≤ sign * pc (gs ++ [g]) first (rest ++ [x])
  c : rows.length ≤ done.length ∧ (done ≠ [] → 0 < rows.length)
theorem cand_best {choices : List Int} {sign first g late : Int} {gs : List Int} {rows : List Rw} (h : RowsOk choices sign first gs rows) (hl : late ∈ choices) {m : Int × List Int} (hm : m ∈ cand sign g late rows) (hall : ∀ y ∈ cand sign g late rows, m.1 ≤ y.1) :
    WayTo choices sign first (gs ++ [g]) (late, m.1, m.2 ++ [late]) ∧ ∀ rest, rest.length = gs.length → (∀ x ∈ rest, x ∈ choices) → m.1 ≤ sign * pc (gs ++ [g]) first (rest ++ [late]) := by
  obtain ⟨e, he, rfl⟩ := List.mem_map.mp hm
  obtain ⟨rest, h1, h2, h3, h4, h5⟩ := (h.a e he).ex
  refine ⟨⟨rest ++ [late], ?_, ?_, ?_, ?_, ?_⟩, fun rest' q1 q2 => ?_⟩
  · show e.2.2 ++ [late] = first :: (rest ++ [late])
    rw [h1]; rfl
  · rw [List.length_append, List.length_append, h2]; rfl
  · intro x hx
    rcases List.mem_append.mp hx with q | q
    · exact h3 x q
    · rw [List.mem_singleton.mp q]; exact hl
  · exact lastD_snoc rest first late
  · show e.2.1 + sign * ((g + late - e.1) * (g + late - e.1 - 1)) = _
    rw [pc_snoc h2, h4, Int.mul_add, h5]
  · obtain ⟨e', he', k1, k2⟩ := h.b rest' q1 q2
    have k3 := hall _ (List.mem_map.mpr ⟨e', he', rfl⟩)
    rw [pc_snoc q1, Int.mul_add, ← k1]
    have k4 : (e.2.1 + sign * ((g + late - e.1) * (g + late - e.1 - 1)), e.2.2).1 ≤ e'.2.1 + sign * ((g + late - e'.1) * (g + late - e'.1 - 1)) := k3
    omega
theorem aft_step {choices : List Int} {sign first g late : Int} {gs done : List Int} {rows aft : List Rw} (h : RowsOk choices sign first gs rows) (ha : AftOk choices sign first gs g done aft) (hl : late ∈ choices) {m : Int × List Int} (hm : m ∈ cand sign g late rows)
    (hall : ∀ y ∈ cand sign g late rows, m.1 ≤ y.1) : AftOk choices sign first gs g (done ++ [late]) (putR aft late (m.1, m.2 ++ [late])) := by
  obtain ⟨k1, k2⟩ := cand_best h hl hm hall
  obtain ⟨l1, l2⟩ := putR_len aft late (m.1, m.2 ++ [late])
  refine ⟨fun e he => ?_, fun rest q1 q2 x hx => ?_, ?_, fun _ => l2⟩
  · rcases putR_mem he with q | ⟨q, _⟩
    · rw [q]; exact k1
    · exact ha.a e q
  · by_cases z : x = late
    · subst z
      exact ⟨_, putR_new aft x (m.1, m.2 ++ [x]), rfl, k2 rest q1 q2⟩
    · rcases List.mem_append.mp hx with q | q
      · obtain ⟨e, e1, e2, e3⟩ := ha.b rest q1 q2 x q
        exact ⟨e, putR_old e1 (by rw [e2]; exact z), e2, e3⟩
      · exact absurd (List.mem_singleton.mp q) z
  · rw [List.length_append]
    have := ha.c.1
    show _ ≤ done.length + 1
    omega
theorem aft_start (choices : List Int) (sign first : Int) (gs : List Int) (g : Int) : AftOk choices sign first gs g [] [] :=
  ⟨(fun e he => by cases he), (fun rest _ _ x hx => by cases hx), Nat.le_refl _, fun q => absurd rfl q⟩
theorem aft_end {choices : List Int} {sign first g : Int} {gs : List Int} {aft : List Rw} (hc : choices ≠ []) (hl : choices.length ≤ 20) (ha : AftOk choices sign first gs g choices aft) : RowsOk choices sign first (gs ++ [g]) aft := by
  refine ⟨ha.a, fun rest h1 h2 => ?_, ha.c.2 hc, by have := ha.c.1; omega⟩
  have hne : rest ≠ [] := fun e => by rw [e, List.length_append] at h1; cases h1
  have es := List.dropLast_concat_getLast hne
  have h3 : rest.dropLast.length = gs.length := by rw [List.length_dropLast, h1, List.length_append]; rfl
  obtain ⟨e, e1, e2, e3⟩ := ha.b rest.dropLast h3 (fun x hx => h2 x (List.dropLast_subset _ hx)) (rest.getLast hne) (h2 _ (List.getLast_mem hne))
  rw [es] at e3
  refine ⟨e, e1, ?_, e3⟩
  have h5 : lastD first rest = rest.getLast hne := by
    have := lastD_snoc rest.dropLast first (rest.getLast hne)
    rw [es] at this
    exact this
  rw [e2, h5]
/-- the whole round -/
def cc (gs : List Int) : List Int → Int
  | [] => 0
  | l :: ls => pc gs l (ls ++ [l])
theorem cand_end {choices : List Int} {sign first g : Int} {gs : List Int} {rows : List Rw} (h : RowsOk choices sign first gs rows) (hf : first ∈ choices) {m : Int × List Int} (hm : m ∈ cand sign g first rows) (hall : ∀ y ∈ cand sign g first rows, m.1 ≤ y.1) :
    (m.2.length = gs.length + 1 ∧ (∀ x ∈ m.2, x ∈ choices) ∧ m.1 = sign * cc (gs ++ [g]) m.2) ∧ ∀ rest, rest.length = gs.length → (∀ x ∈ rest, x ∈ choices) → m.1 ≤ sign * cc (gs ++ [g]) (first :: rest) := by
  obtain ⟨k1, k2⟩ := cand_best h hf hm hall
  obtain ⟨e, he, e0⟩ := List.mem_map.mp hm
  obtain ⟨rest, h1, h2, h3, h4, h5⟩ := (h.a e he).ex
  have em : m.2 = first :: rest := by rw [← e0]; exact h1
  refine ⟨⟨by rw [em, List.length_cons, h2], fun x hx => ?_, ?_⟩, k2⟩
  · rw [em] at hx
    rcases List.mem_cons.mp hx with q | q
    · rw [q]; exact hf
    · exact h3 x q
  · rw [em, ← e0]
    show e.2.1 + sign * ((g + first - e.1) * (g + first - e.1 - 1)) = sign * pc (gs ++ [g]) first (rest ++ [first])
    rw [pc_snoc h2, h4, Int.mul_add, h5]
end S18

namespace S18
open PySem PySem.Spec PyProof.Rows L2 AL
/-! ### all so many times as great -/
def scale (y : Int) (ts : List Int) : List Int := ts.map (· * y)
theorem scale_len (y : Int) (ts : List Int) : (scale y ts).length = ts.length := List.length_map ..
theorem scale_mod {y : Int} (hy : 0 < y) (a l : Int) : (a * y) % (l * y) = a % l * y := by
  rw [Int.mul_comm a y, Int.mul_comm l y, Int.mul_emod_mul_of_pos a l hy, Int.mul_comm]
theorem gaps_scale {lap y : Int} (hy : 0 < y) (ts : List Int) : gaps (lap * y) (scale y ts) = scale y (gaps lap ts) := by
  unfold gaps scale
  have e0 : (ts.map (· * y)).getD 0 0 = ts.getD 0 0 * y := by cases ts with
    | nil => exact (Int.zero_mul y).symm
    | cons a l => rfl
  have e1 : (ts.map (· * y)).drop 1 ++ [(ts.map (· * y)).getD 0 0] = (ts.drop 1 ++ [ts.getD 0 0]).map (· * y) := by
    rw [e0, List.map_append, List.map_drop]
    rfl
  rw [e1, List.zip_map, List.map_map, List.map_map]
  refine List.map_congr_left fun p _ => ?_
  show (if 1 < (ts.map (· * y)).length then (p.2 * y - p.1 * y) % (lap * y) else lap * y) = (if 1 < ts.length then (p.2 - p.1) % lap else lap) * y
  rw [List.length_map]
  by_cases h : 1 < ts.length
  · rw [if_pos h, if_pos h, ← Int.sub_mul, scale_mod hy]
  · rw [if_neg h, if_neg h]
theorem good_scale {lap y : Int} {ts : List Int} (g : Good lap ts) (hy : 1 ≤ y) (h : lap * y ≤ 1440) : Good (lap * y) (scale y ts) := by
  have h1 := g.l1
  refine ⟨?_, h, by rw [scale_len]; exact g.ne, by rw [scale_len]; exact g.le, fun t ht => ?_, ?_⟩
  · have := Int.mul_le_mul h1 hy (by omega) (by omega); omega
  · obtain ⟨u, hu, rfl⟩ := List.mem_map.mp ht
    have := g.rg u hu
    exact ⟨Int.mul_nonneg this.1 (by omega), Int.mul_lt_mul_of_pos_right this.2 (by omega)⟩
  · exact List.pairwise_map.mpr (g.asc.imp fun h => Int.mul_lt_mul_of_pos_right h (by omega))
theorem wait_scale {lap y : Int} {ts : List Int} (hy : 0 < y) (hl : 0 < ts.length) (m : Int) : waitBy (lap * y) (scale y ts) (m * y) = waitBy lap ts m * y := by
  obtain ⟨⟨t, ht, e⟩, hall⟩ := wait_spec (lap := lap) hl m
  refine wait_eq ⟨t * y, List.mem_map.mpr ⟨t, ht, rfl⟩, ?_⟩ fun u hu => ?_
  · rw [e, ← Int.sub_mul, scale_mod hy]
  · obtain ⟨v, hv, rfl⟩ := List.mem_map.mp hu
    rw [← Int.sub_mul, scale_mod hy]
    exact Int.mul_le_mul_of_nonneg_right (hall v hv) (by omega)
theorem sq_scale (y : Int) : ∀ gs : List Int, sq (scale y gs) = y * y * sq gs + (y * y - y) * gs.sum
  | [] => by show (0 : Int) = y * y * 0 + (y * y - y) * 0; rw [Int.mul_zero, Int.mul_zero]; rfl
  | g :: gs => by
    have ih := sq_scale y gs
    show sq (g * y :: scale y gs) = _
    rw [sq_cons, sq_cons, List.sum_cons, ih]
    grind
theorem SS_one {g : Int} (h : 0 ≤ g) : SS (fun _ => 1) g = g := by
  unfold SS
  rw [sum_ones, rng_len]
  omega
theorem gaps_sum {lap : Int} {ts : List Int} (g : Good lap ts) : (gaps lap ts).sum = lap := by
  have h1 := g.l1
  have c := core g (fun _ => 1)
  rw [sum_ones, rng_len] at c
  have e : (gaps lap ts).map (SS fun _ => 1) = gaps lap ts := by
    have := List.map_congr_left (f := SS fun _ => 1) (g := fun x => x) (l := gaps lap ts) fun x hx => SS_one (gap_bd (ts := ts) (show 0 < lap by omega) x hx).1
    rw [this, List.map_id']
  rw [e] at c
  omega
theorem mean_facts {lap : Int} {ts : List Int} (g : Good lap ts) : 0 ≤ (meanP lap ts).1 ∧ (meanP lap ts).1 ≤ 2 ^ 23 ∧ 0 < (meanP lap ts).2 ∧ (meanP lap ts).2 ≤ 2880 ∧ sq (gaps lap ts) * (meanP lap ts).2 = (meanP lap ts).1 * (2 * lap) := by
  have h1 := g.l1
  have h2 := g.l2
  have hd := meanP_den ts h1 h2
  have hb := WS_bd g
  have e := sq_eq g
  obtain ⟨k, a, b, hk, ea, eb, ef, _⟩ := fr_parts (a := sq (gaps lap ts)) (show 0 < 2 * lap by omega)
  have em : meanP lap ts = (a, b) := ef
  rw [em] at hd ⊢
  refine ⟨?_, ?_, hd.1, hd.2, ?_⟩
  · show 0 ≤ a
    rcases (show a < 0 ∨ 0 ≤ a by omega) with z | z
    · exfalso
      have := Int.mul_neg_of_pos_of_neg hk z
      omega
    · exact z
  · show a ≤ 2 ^ 23
    have : a ≤ k * a := by
      rcases (show a < 0 ∨ 0 ≤ a by omega) with z | z
      · exfalso
        have := Int.mul_neg_of_pos_of_neg hk z
        omega
      · have := Int.mul_le_mul_of_nonneg_right (show 1 ≤ k by omega) z
        omega
    omega
  · show sq (gaps lap ts) * b = a * (2 * lap)
    rw [ea, eb]
    grind
theorem mean_scale {lap y : Int} {ts : List Int} (g : Good lap ts) (hy : 1 ≤ y) (h : lap * y ≤ 1440) :
    meanP (lap * y) (scale y ts) = fr (2 * y * (meanP lap ts).1 + (y - 1) * (meanP lap ts).2) (2 * (meanP lap ts).2) := by
  obtain ⟨m1, m2, m3, m4, m5⟩ := mean_facts g
  have g2 := good_scale g hy h
  have hs := gaps_sum g
  have e : sq (gaps (lap * y) (scale y ts)) = y * y * sq (gaps lap ts) + (y * y - y) * lap := by
    rw [gaps_scale (by omega), sq_scale, hs]
  unfold meanP at *
  have l2 := g2.l1
  refine fr_cross (by omega) (by omega) ?_
  rw [e]
  generalize sq (gaps lap ts) = s at *
  generalize (fr s (2 * lap)).1 = a at *
  generalize (fr s (2 * lap)).2 = b at *
  grind
theorem max_scale {y : Int} (hy : 0 < y) {gs : List Int} (h : gs ≠ []) : maxI (scale y gs) = maxI gs * y := by
  obtain ⟨h1, h2⟩ := maxI_spec h
  refine (maxI_eq (List.mem_map.mpr ⟨_, h1, rfl⟩) fun u hu => ?_).symm
  obtain ⟨v, hv, rfl⟩ := List.mem_map.mp hu
  exact Int.mul_le_mul_of_nonneg_right (h2 v hv) (by omega)
theorem worst_scale {lap y : Int} {ts : List Int} (g : Good lap ts) (hy : 1 ≤ y) : (worst (lap * y) (scale y ts)).1 = y * (worst lap ts).1 + y - 1 := by
  show maxI (gaps (lap * y) (scale y ts)) - 1 = y * (maxI (gaps lap ts) - 1) + y - 1
  rw [gaps_scale (by omega), max_scale (by omega) (gaps_ne g.ne)]
  grind
theorem cg_scale {lap y : Int} {ts : List Int} (hy : 0 < y) {k r : Int} (h1 : 0 ≤ r) (h2 : r < y) : cg (lap * y) (scale y ts) (k * y + r) = cg lap ts k := by
  unfold cg
  rw [gaps_scale hy]
  unfold scale
  rw [List.filter_map, List.length_map]
  congr 2
  refine List.filter_congr fun g _ => ?_
  show decide (g * y > k * y + r) = decide (g > k)
  by_cases z : g > k
  · rw [decide_eq_true z]
    refine decide_eq_true ?_
    have := Int.mul_le_mul_of_nonneg_right (show k + 1 ≤ g by omega) (show 0 ≤ y by omega)
    rw [Int.add_mul, Int.one_mul] at this
    omega
  · rw [decide_eq_false z]
    refine decide_eq_false ?_
    have := Int.mul_le_mul_of_nonneg_right (show g ≤ k by omega) (show 0 ≤ y by omega)
    omega
theorem MM_scale {lap y : Int} {ts : List Int} (g : Good lap ts) (hy : 1 ≤ y) : (MM (lap * y) (scale y ts) : Int) = MM lap ts * y := by
  obtain ⟨_, _, m1, _, _⟩ := max_facts g
  unfold MM
  rw [gaps_scale (by omega), max_scale (by omega) (gaps_ne g.ne)]
  have : 0 ≤ maxI (gaps lap ts) * y := Int.mul_nonneg (by omega) (by omega)
  rw [Int.toNat_of_nonneg this, Int.toNat_of_nonneg (by omega)]
theorem AA_scale {lap : Int} {y : Nat} {ts : List Int} (g : Good lap ts) (hy : 1 ≤ y) (h : lap * y ≤ 1440) : ∀ k : Nat, ∀ r : Nat, r ≤ y → AA (lap * y) (scale y ts) ((k * y + r : Nat) : Int) = y * AA lap ts k + r * cg lap ts k
  | 0, 0, _ => by
    have g2 := good_scale g (y := y) (by omega) h
    rw [show (((0 * y + 0 : Nat) : Int)) = 0 by simp, AA_zero g2, show (((0 : Nat) : Int)) = 0 from rfl, AA_zero g]
    simp
  | k + 1, 0, _ => by
    have e := AA_scale g hy h k y (Nat.le_refl _)
    have s := AA_succ g (k := (k : Int)) (by omega)
    rw [show ((k + 1) * y + 0 : Nat) = k * y + y by rw [Nat.add_mul, Nat.one_mul, Nat.add_zero], e]
    rw [show (((k + 1 : Nat) : Int)) = (k : Int) + 1 by omega, s]
    grind
  | k, r + 1, hr => by
    have g2 := good_scale g (y := y) (by omega) h
    have e := AA_scale g hy h k r (by omega)
    have s := AA_succ g2 (k := ((k * y + r : Nat) : Int)) (by omega)
    rw [show ((k * y + (r + 1) : Nat) : Int) = ((k * y + r : Nat) : Int) + 1 by omega, s, e]
    have c := cg_scale (lap := lap) (y := y) (ts := ts) (by omega) (k := k) (r := r) (by omega) (by omega)
    rw [show ((k * y + r : Nat) : Int) = (k : Int) * (y : Int) + (r : Int) by rw [Int.natCast_add, Int.natCast_mul], c]
    grind
theorem half_scale {lap x z : Int} {y : Nat} {ts : List Int} (g : Good lap ts) (hy : 1 ≤ y) (h : lap * y ≤ 1440) (h0 : 0 < x) (h1 : x ≤ z) :
    y * half lap ts x z ≤ half (lap * y) (scale y ts) x z ∧ half (lap * y) (scale y ts) x z ≤ y * half lap ts x z + y - 1 := by
  have g2 := good_scale g (y := y) (by omega) h
  obtain ⟨j, a1, a2, a3, a4⟩ := half_ex g (show 0 ≤ x by omega) h1
  obtain ⟨i, b1, b2, b3, b4⟩ := half_ex g2 (show 0 ≤ x by omega) h1
  rw [a2, b2]
  constructor
  · -- y * j ≤ i
    rcases Nat.lt_or_ge i (j * y) with z1 | z1
    · exfalso
      have hj : 1 ≤ j := by
        rcases Nat.eq_zero_or_pos j with q | q
        · rw [q, Nat.zero_mul] at z1; omega
        · exact q
      have ej := AA_scale g hy h j 0 (by omega)
      have mono : ∀ d : Nat, ∀ k : Nat, AA (lap * y) (scale y ts) k ≤ AA (lap * y) (scale y ts) ((k + d : Nat) : Int) := by
        intro d
        induction d with
        | zero => intro k; exact Int.le_refl _
        | succ d ih =>
          intro k
          have s := AA_succ g2 (k := ((k + d : Nat) : Int)) (by omega)
          have c : 0 ≤ cg (lap * y) (scale y ts) ((k + d : Nat) : Int) := Int.natCast_nonneg _
          have := ih k
          rw [show ((k + (d + 1) : Nat) : Int) = ((k + d : Nat) : Int) + 1 by omega, s]
          omega
      have m := mono (j * y - (i + 1)) (i + 1)
      rw [show i + 1 + (j * y - (i + 1)) = j * y by omega] at m
      have aj := a4 (j - 1) (by omega)
      rw [show (((j - 1 : Nat) : Int) + 1) = (j : Int) by omega] at aj
      have ej2 : AA (lap * y) (scale y ts) ((j * y : Nat) : Int) = y * AA lap ts j := by
        have := ej
        rw [Nat.add_zero] at this
        rw [this]
        simp
      rw [ej2] at m
      have hz : 0 < z := by omega
      rw [show (((i + 1 : Nat) : Int)) = (i : Int) + 1 by omega] at m
      have q1 := Int.mul_le_mul_of_nonneg_right m (show 0 ≤ z by omega)
      have q2 := Int.mul_lt_mul_of_pos_left aj (show (0 : Int) < y by omega)
      have q3 : x * (lap * y) = y * (x * lap) := by grind
      have q4 : (y : Int) * AA lap ts j * z = y * (AA lap ts j * z) := by grind
      omega
    · rw [← Int.natCast_mul, Nat.mul_comm]; omega
  · rcases Nat.lt_or_ge (j * y + y - 1) i with z1 | z1
    · exfalso
      have ej := AA_scale g hy h j y (Nat.le_refl _)
      have s := AA_succ g (k := (j : Int)) (by omega)
      have b := b4 (j * y + y - 1) z1
      rw [show (((j * y + y - 1 : Nat) : Int) + 1) = ((j * y + y : Nat) : Int) by omega, ej] at b
      have q1 := Int.mul_le_mul_of_nonneg_left (show x * lap ≤ AA lap ts (j + 1) * z from a3) (show (0 : Int) ≤ y by omega)
      rw [s] at q1
      have q2 : (y : Int) * ((AA lap ts j + cg lap ts j) * z) = (y * AA lap ts j + y * cg lap ts j) * z := by grind
      have q3 : x * (lap * y) = y * (x * lap) := by grind
      omega
    · rw [← Int.natCast_mul, Nat.mul_comm y j]; omega
theorem told_scale {lap : Int} {y : Nat} {ts : List Int} (g : Good lap ts) (hy : 1 ≤ y) (h : lap * y ≤ 1440) {k : Nat} (hk : k < MM lap ts) :
    (((told (lap * y) (scale y ts)).drop (k * y)).take y).sum = y * cg lap ts k := by
  have g2 := good_scale g (y := y) (by omega) h
  have e1 := take_sum g2 (k * y)
  have e2 := take_sum g2 (k * y + y)
  have s : ((told (lap * y) (scale y ts)).take (k * y + y)).sum = ((told (lap * y) (scale y ts)).take (k * y)).sum + (((told (lap * y) (scale y ts)).drop (k * y)).take y).sum := by
    rw [List.take_add, List.sum_append]
  have a1 := AA_scale g hy h k 0 (by omega)
  have a2 := AA_scale g hy h k y (Nat.le_refl _)
  rw [Nat.add_zero] at a1
  rw [e1, e2, a1, a2] at s
  simp at s
  omega
end S18

namespace S18
open PySem PySem.Spec PyProof.Rows L2 AL
/-! ### two lines so many times as great -/
theorem sum_map_mul (xs : List Int) (f : Int → Int) (y : Int) : (xs.map fun x => f x * y).sum = (xs.map f).sum * y := by
  induction xs with
  | nil => exact (Int.zero_mul y).symm
  | cons x xs ih => rw [List.map_cons, List.sum_cons, List.map_cons, List.sum_cons, ih, Int.add_mul]
theorem fr_eq {a b : Int} (hb : 0 < b) : a * (fr a b).2 = (fr a b).1 * b := by
  obtain ⟨k, a', b', hk, ea, eb, ef, _⟩ := fr_parts (a := a) hb
  rw [ef]
  show a * b' = a' * b
  rw [ea, eb]
  grind
/-- the sum of the waits of a change -/
def chS (lap : Int) (one other : List Int) (c : Int) : Int := (one.map fun t => waitBy lap other (t + c)).sum
theorem change_scale {lap y c : Int} {one other : List Int} (g1 : Good lap one) (g2 : Good lap other) (hy : 1 ≤ y) :
    changeP (lap * y) (scale y one) (scale y other) (c * y) = fr (y * (changeP lap one other c).1) (changeP lap one other c).2 := by
  have hn := g1.ne
  have e : ((scale y one).map fun t => waitBy (lap * y) (scale y other) (t + c * y)).sum = chS lap one other c * y := by
    unfold scale chS
    rw [List.map_map, ← sum_map_mul]
    congr 1
    refine List.map_congr_left fun t _ => ?_
    show waitBy (lap * y) (other.map (· * y)) (t * y + c * y) = _
    rw [← Int.add_mul]
    exact wait_scale (by omega) g2.ne _
  have hd := fr_den (a := chS lap one other c) (b := one.length) (by omega)
  have hq := fr_eq (a := chS lap one other c) (b := one.length) (by omega)
  unfold changeP
  rw [e, scale_len]
  show fr (chS lap one other c * y) _ = fr (y * (fr (chS lap one other c) one.length).1) (fr (chS lap one other c) one.length).2
  refine fr_cross (by omega) hd.1 ?_
  grind
theorem ltP_fr {a b n : Int} (hn : 0 < n) : ltP (fr a n) (fr b n) ↔ a < b := by
  have ha := fr_eq (a := a) hn
  have hb := fr_eq (a := b) hn
  have da := (fr_den (a := a) hn).1
  have db := (fr_den (a := b) hn).1
  unfold ltP
  generalize (fr a n).1 = p at *
  generalize (fr a n).2 = q at *
  generalize (fr b n).1 = r at *
  generalize (fr b n).2 = s at *
  have hq := Int.mul_pos da db
  have e1 : p * s * n = a * (q * s) := by grind
  have e2 : r * q * n = b * (q * s) := by grind
  constructor
  · intro h
    have := Int.mul_lt_mul_of_pos_right h hn
    rw [e1, e2] at this
    exact Int.lt_of_mul_lt_mul_right this (by omega)
  · intro h
    have := Int.mul_lt_mul_of_pos_right h hq
    rw [← e1, ← e2] at this
    exact Int.lt_of_mul_lt_mul_right this (by omega)
/-- waits of a shift by whole and rest -/
theorem wait_shift_scale {lap y q r m : Int} {other : List Int} (hl : 0 < lap) (hne : 0 < other.length) (hr0 : 0 ≤ r) (hr1 : r < y) :
    waitBy (lap * y) (later (lap * y) (scale y other) (q * y + r)) (m * y) = waitBy lap (later lap other q) m * y + r := by
  have hy : 0 < y := by omega
  have key : ∀ t : Int, ((t * y + (q * y + r)) % (lap * y) - m * y) % (lap * y) = ((t + q) % lap - m) % lap * y + r := by
    intro t
    rw [Int.emod_sub_emod, Int.emod_sub_emod]
    have e : t * y + (q * y + r) - m * y = (t + q - m) * y + r := by grind
    have h1 := Int.emod_nonneg (t + q - m) (show lap ≠ 0 by omega)
    have h2 := Int.emod_lt_of_pos (t + q - m) hl
    have e2 := Int.emod_add_mul_ediv (t + q - m) lap
    generalize (t + q - m) % lap = x at *
    generalize (t + q - m) / lap = z at *
    rw [e]
    have e3 : (t + q - m) * y + r = (x * y + r) + (lap * y) * z := by grind
    rw [e3, Int.add_mul_emod_self_left]
    refine Int.emod_eq_of_lt ?_ ?_
    · have := Int.mul_nonneg h1 (show 0 ≤ y by omega); omega
    · have := Int.mul_le_mul_of_nonneg_right (show x + 1 ≤ lap by omega) (show 0 ≤ y by omega)
      rw [Int.add_mul, Int.one_mul] at this
      omega
  obtain ⟨⟨t, ht, e⟩, hall⟩ := wait_spec (lap := lap) (ts := later lap other q) (by rw [later_len]; exact hne) m
  obtain ⟨u, hu, rfl⟩ := List.mem_map.mp ht
  refine wait_eq ⟨(u * y + (q * y + r)) % (lap * y), List.mem_map.mpr ⟨u * y, List.mem_map.mpr ⟨u, hu, rfl⟩, rfl⟩, ?_⟩ fun v hv => ?_
  · rw [key, ← e]
  · obtain ⟨v', hv', rfl⟩ := List.mem_map.mp hv
    obtain ⟨v'', hv'', rfl⟩ := List.mem_map.mp hv'
    have := hall ((v'' + q) % lap) (List.mem_map.mpr ⟨v'', hv'', rfl⟩)
    show _ ≤ ((v'' * y + (q * y + r)) % (lap * y) - m * y) % (lap * y)
    rw [key]
    have := Int.mul_le_mul_of_nonneg_right this (show 0 ≤ y by omega)
    omega
theorem chS_scale {lap y q r c : Int} {one other : List Int} (hl : 0 < lap) (hne : 0 < other.length) (hr0 : 0 ≤ r) (hr1 : r < y) :
    chS (lap * y) (scale y one) (later (lap * y) (scale y other) (q * y + r)) (c * y) = chS lap one (later lap other q) c * y + one.length * r := by
  unfold chS
  have e : ((scale y one).map fun t => waitBy (lap * y) (later (lap * y) (scale y other) (q * y + r)) (t + c * y)) = one.map fun t => waitBy lap (later lap other q) (t + c) * y + r := by
    unfold scale
    rw [List.map_map]
    refine List.map_congr_left fun t _ => ?_
    show waitBy (lap * y) (later (lap * y) (scale y other) (q * y + r)) (t * y + c * y) = _
    rw [← Int.add_mul]
    exact wait_shift_scale hl hne hr0 hr1
  rw [e]
  induction one with
  | nil => simp
  | cons t one ih => 
    rw [List.map_cons, List.sum_cons, List.map_cons, List.sum_cons, ih, List.length_cons, Int.natCast_add]
    · grind
    · unfold scale
      rw [List.map_map]
      refine List.map_congr_left fun t _ => ?_
      show waitBy (lap * y) (later (lap * y) (scale y other) (q * y + r)) (t * y + c * y) = _
      rw [← Int.add_mul]
      exact wait_shift_scale hl hne hr0 hr1
theorem shift_get {lap c : Int} {one other : List Int} {i : Nat} (h : i < lap.toNat) : (shiftMeans lap one other c)[i]? = some (fr (chS lap one (later lap other i) c) one.length) := by
  unfold shiftMeans
  rw [List.getElem?_map, rng_get h]
  rfl
theorem shift_at {lap c : Int} {one other : List Int} {i : Nat} {m : Int × Int} (h : (shiftMeans lap one other c)[i]? = some m) : i < lap.toNat ∧ m = fr (chS lap one (later lap other i) c) one.length := by
  have hi := (List.getElem?_eq_some_iff.mp h).1
  unfold shiftMeans at hi
  rw [List.length_map, rng_len] at hi
  refine ⟨hi, ?_⟩
  rw [shift_get hi] at h
  exact (Option.some.inj h).symm
theorem best_scale {lap c : Int} {y : Nat} {one other : List Int} (g1 : Good lap one) (g2 : Good lap other) (hy : 1 ≤ y) {j j2 : Nat} {m m2 : Int × Int} (h1 : Least (shiftMeans lap one other c) j m)
    (h2 : Least (shiftMeans (lap * y) (scale y one) (scale y other) (c * y)) j2 m2) : (j2 : Int) = j * y ∧ m2 = fr (y * m.1) m.2 := by
  have hl := g1.l1
  have hn : (0 : Int) < one.length := by have := g1.ne; omega
  obtain ⟨a1, a2, a3⟩ := h1
  obtain ⟨b1, b2, b3⟩ := h2
  obtain ⟨hj, rfl⟩ := shift_at a1
  obtain ⟨hj2, em2⟩ := shift_at b1
  rw [scale_len] at em2
  have big : ∀ q r : Nat, q < lap.toNat → r < y → (shiftMeans (lap * y) (scale y one) (scale y other) (c * y))[q * y + r]? = some (fr (chS lap one (later lap other q) c * y + one.length * r) one.length) := by
    intro q r hq hr
    have hlt : q * y + r < (lap * y).toNat := by
      have e : (lap * y).toNat = lap.toNat * y := by
        have : lap * y = ((lap.toNat * y : Nat) : Int) := by rw [Int.natCast_mul, Int.toNat_of_nonneg (by omega)]
        rw [this]; rfl
      rw [e]
      have := Nat.mul_le_mul_right y (show q + 1 ≤ lap.toNat from hq)
      rw [Nat.add_mul, Nat.one_mul] at this
      omega
    rw [shift_get hlt, scale_len, show ((q * y + r : Nat) : Int) = (q : Int) * y + r by rw [Int.natCast_add, Int.natCast_mul], chS_scale (by omega) g2.ne (by omega) (by omega)]
  have split : ∃ q r : Nat, j2 = q * y + r ∧ r < y ∧ q < lap.toNat := by
    refine ⟨j2 / y, j2 % y, ?_, Nat.mod_lt _ (by omega), ?_⟩
    · have := Nat.div_add_mod j2 y
      rw [Nat.mul_comm] at this
      exact this.symm
    · refine (Nat.div_lt_iff_lt_mul (by omega)).mpr ?_
      have e : (lap * y).toNat = lap.toNat * y := by
        have : lap * y = ((lap.toNat * y : Nat) : Int) := by rw [Int.natCast_mul, Int.toNat_of_nonneg (by omega)]
        rw [this]; rfl
      omega
  obtain ⟨q, r, ej2, hr, hq⟩ := split
  have bq := big q r hq hr
  rw [← ej2] at bq
  rw [bq] at b1
  have b1 := Option.some.inj b1
  have hr0 : r = 0 := by
    rcases Nat.eq_zero_or_pos r with z | z
    · exact z
    · exfalso
      have b0 := big q 0 hq (by omega)
      have := b2 _ (List.mem_of_getElem? b0)
      rw [← b1, ltP_fr hn] at this
      have : (0 : Int) < one.length * (r : Int) := Int.mul_pos hn (by omega)
      omega
  subst hr0
  rw [Nat.add_zero] at ej2
  have hqj : chS lap one (later lap other q) c = chS lap one (later lap other j) c := by
    have x1 := a2 _ (List.mem_of_getElem? (shift_get (lap := lap) (c := c) (one := one) (other := other) hq))
    rw [ltP_fr hn] at x1
    have x2 := b2 _ (List.mem_of_getElem? (big j 0 hj (by omega)))
    rw [← b1, ltP_fr hn] at x2
    simp only [Int.natCast_zero, Int.mul_zero, Int.add_zero] at x2
    rcases (show chS lap one (later lap other j) c < chS lap one (later lap other q) c ∨ chS lap one (later lap other q) c = chS lap one (later lap other j) c by omega) with z | z
    · exact absurd (Int.mul_lt_mul_of_pos_right z (show (0 : Int) < y by omega)) x2
    · exact z
  have ejq : q = j := by
    rcases Nat.lt_trichotomy q j with z | z | z
    · exfalso
      have := a3 q z _ (shift_get hq)
      rw [ltP_fr hn] at this
      omega
    · exact z
    · exfalso
      have := b3 (j * y + 0) (by rw [ej2, Nat.add_zero]; exact Nat.mul_lt_mul_of_pos_right z (by omega)) _ (big j 0 hj (by omega))
      rw [← b1, ltP_fr hn, hqj] at this
      omega
  subst ejq
  refine ⟨by rw [ej2, Int.natCast_mul], ?_⟩
  rw [← b1]
  have hd := fr_den (a := chS lap one (later lap other q) c) hn
  have hq2 := fr_eq (a := chS lap one (later lap other q) c) hn
  refine fr_cross hn hd.1 ?_
  simp only [Int.natCast_zero, Int.mul_zero, Int.add_zero]
  grind
end S18

namespace S18
open PySem PySem.Spec PyProof.Rows L2 AL
/-! ### gaps of times on a round, wherever one begins -/
def DD (lap : Int) : List Int → List Int
  | [] => []
  | x :: xs => chainG x (xs ++ [x + lap])
theorem DD_gaps {lap : Int} {ts : List Int} (g : Good lap ts) : gaps lap ts = DD lap ts := by
  cases ts with
  | nil => exact absurd g.ne (Nat.lt_irrefl 0)
  | cons t r => exact gaps_chain g
theorem DD_rot (lap x : Int) (xs : List Int) : (DD lap (xs ++ [x + lap])).Perm (DD lap (x :: xs)) := by
  cases xs with
  | nil =>
    show [x + lap + lap - (x + lap)].Perm [x + lap - x]
    rw [show x + lap + lap - (x + lap) = x + lap - x by omega]
  | cons y ys =>
    show (chainG y (ys ++ [x + lap] ++ [y + lap])).Perm (chainG x (y :: ys ++ [x + lap]))
    rw [chainG_app, lastD_snoc]
    show (chainG y (ys ++ [x + lap]) ++ [y + lap - (x + lap)]).Perm ((y - x) :: chainG y (ys ++ [x + lap]))
    rw [show y + lap - (x + lap) = y - x by omega]
    exact List.perm_append_comm (l₁ := chainG y (ys ++ [x + lap])) (l₂ := [y - x])
theorem chainG_add (c : Int) : ∀ (xs : List Int) (x : Int), chainG (x + c) (xs.map (· + c)) = chainG x xs
  | [], x => rfl
  | y :: ys, x => by
    show (y + c - (x + c)) :: chainG (y + c) (ys.map (· + c)) = (y - x) :: chainG y ys
    rw [chainG_add c ys y, show y + c - (x + c) = y - x by omega]
theorem DD_add (lap c : Int) (xs : List Int) : DD lap (xs.map (· + c)) = DD lap xs := by
  cases xs with
  | nil => rfl
  | cons x xs =>
    show chainG (x + c) (xs.map (· + c) ++ [x + c + lap]) = chainG x (xs ++ [x + lap])
    rw [← chainG_add c (xs ++ [x + lap]) x, List.map_append]
    congr 3
    show x + c + lap = x + lap + c
    omega
/-- rising, less than a round from the first to the last -/
structure Cyc (lap : Int) (xs : List Int) : Prop where
  asc : xs.Pairwise (· < ·)
  sp : ∀ x ∈ xs, ∀ y ∈ xs, y < x + lap
theorem Cyc.rot {lap x : Int} {xs : List Int} (h : Cyc lap (x :: xs)) : Cyc lap (xs ++ [x + lap]) := by
  obtain ⟨h1, h2⟩ := List.pairwise_cons.mp h.asc
  have hx : ∀ y ∈ xs, y < x + lap := fun y hy => h.sp x List.mem_cons_self y (List.mem_cons_of_mem _ hy)
  refine ⟨List.pairwise_append.mpr ⟨h2, List.pairwise_singleton _ _, fun y hy z hz => ?_⟩, fun y hy z hz => ?_⟩
  · rw [List.mem_singleton.mp hz]; exact hx y hy
  · have hself := h.sp x List.mem_cons_self x List.mem_cons_self
    rcases List.mem_append.mp hy with a | a <;> rcases List.mem_append.mp hz with b | b
    · exact h.sp y (List.mem_cons_of_mem _ a) z (List.mem_cons_of_mem _ b)
    · rw [List.mem_singleton.mp b]; have := h1 y a; omega
    · rw [List.mem_singleton.mp a]; have := hx z b; omega
    · rw [List.mem_singleton.mp a, List.mem_singleton.mp b]; omega
theorem mod_add_lap (x lap : Int) : (x + lap) % lap = x % lap := Int.add_emod_right x lap
theorem norm_aux {lap : Int} (hl : 0 < lap) : ∀ (n : Nat) (xs : List Int), (xs.filter fun x => decide (x < 0)).length = n → Cyc lap xs → (∀ x ∈ xs, -lap ≤ x ∧ x < lap) →
    ∃ zs : List Int, zs.Perm (xs.map (· % lap)) ∧ zs.Pairwise (· < ·) ∧ (∀ z ∈ zs, 0 ≤ z ∧ z < lap) ∧ (DD lap zs).Perm (DD lap xs)
  | 0, xs, h0, hc, hr => by
    have hnn : ∀ x ∈ xs, 0 ≤ x := fun x hx => by
      rcases (show 0 ≤ x ∨ x < 0 by omega) with z | z
      · exact z
      · have : x ∈ xs.filter fun x => decide (x < 0) := List.mem_filter.mpr ⟨hx, decide_eq_true z⟩
        rw [List.eq_nil_of_length_eq_zero h0] at this
        cases this
    have e : xs.map (· % lap) = xs := by
      have := List.map_congr_left (f := (· % lap)) (g := fun x => x) (l := xs) fun x hx => Int.emod_eq_of_lt (hnn x hx) (hr x hx).2
      rw [this, List.map_id']
    exact ⟨xs, by rw [e], hc.asc, fun z hz => ⟨hnn z hz, (hr z hz).2⟩, List.Perm.refl _⟩
  | n + 1, [], h0, _, _ => by cases h0
  | n + 1, x :: xs, h0, hc, hr => by
    obtain ⟨h1, h2⟩ := List.pairwise_cons.mp hc.asc
    have hx0 : x < 0 := by
      rcases (show x < 0 ∨ 0 ≤ x by omega) with z | z
      · exact z
      · exfalso
        have : (x :: xs).filter (fun x => decide (x < 0)) = [] := by
          refine List.filter_eq_nil_iff.mpr fun y hy => ?_
          have : 0 ≤ y := by
            rcases List.mem_cons.mp hy with e | e
            · omega
            · have := h1 y e; omega
          simp
          omega
        rw [this] at h0
        cases h0
    have hxr := hr x List.mem_cons_self
    obtain ⟨zs, a1, a2, a3, a4⟩ := norm_aux hl n (xs ++ [x + lap]) (by
      rw [List.filter_append]
      have : [x + lap].filter (fun x => decide (x < 0)) = [] := by
        refine List.filter_eq_nil_iff.mpr fun y hy => ?_
        rw [List.mem_singleton.mp hy]
        simp
        omega
      rw [this, List.append_nil]
      rw [List.filter_cons_of_pos (by simpa using hx0), List.length_cons] at h0
      omega) hc.rot (fun y hy => by
      rcases List.mem_append.mp hy with e | e
      · exact hr y (List.mem_cons_of_mem _ e)
      · rw [List.mem_singleton.mp e]; omega)
    refine ⟨zs, a1.trans ?_, a2, a3, a4.trans (DD_rot lap x xs)⟩
    rw [List.map_append]
    show (xs.map (· % lap) ++ [(x + lap) % lap]).Perm (x % lap :: xs.map (· % lap))
    rw [mod_add_lap]
    exact List.perm_append_comm (l₁ := xs.map (· % lap)) (l₂ := [x % lap])
theorem gaps_mod {lap : Int} {xs : List Int} (h1 : 1 ≤ lap) (h2 : lap ≤ 1440) (hn : 0 < xs.length) (hn2 : xs.length ≤ 60) (hc : Cyc lap xs) :
    Good lap (sortI (xs.map (· % lap))) ∧ (gaps lap (sortI (xs.map (· % lap)))).Perm (DD lap xs) := by
  have hl : 0 < lap := by omega
  have hne : xs ≠ [] := fun e => by rw [e] at hn; cases hn
  obtain ⟨c, hcdef⟩ : ∃ c, c = -(lap * (xs.getLast hne / lap)) := ⟨_, rfl⟩
  have hlast := List.getLast_mem hne
  have hle : ∀ x ∈ xs, x ≤ xs.getLast hne := by
    intro x hx
    obtain ⟨i, hi, e⟩ := List.getElem_of_mem hx
    rw [List.getLast_eq_getElem]
    rcases Nat.lt_or_ge i (xs.length - 1) with z | z
    · have := List.pairwise_iff_getElem.mp hc.asc i (xs.length - 1) hi (by omega) z
      omega
    · have : i = xs.length - 1 := by omega
      subst this
      omega
  have hdm := Int.emod_add_mul_ediv (xs.getLast hne) lap
  have m1 := Int.emod_nonneg (xs.getLast hne) (show lap ≠ 0 by omega)
  have m2 := Int.emod_lt_of_pos (xs.getLast hne) hl
  have hc2 : Cyc lap (xs.map (· + c)) := by
    refine ⟨List.pairwise_map.mpr (hc.asc.imp fun h => by omega), fun x hx y hy => ?_⟩
    obtain ⟨u, hu, rfl⟩ := List.mem_map.mp hx
    obtain ⟨v, hv, rfl⟩ := List.mem_map.mp hy
    have := hc.sp u hu v hv
    omega
  obtain ⟨zs, a1, a2, a3, a4⟩ := norm_aux hl _ (xs.map (· + c)) rfl hc2 (fun x hx => by
    obtain ⟨u, hu, rfl⟩ := List.mem_map.mp hx
    have q1 := hle u hu
    have q2 := hc.sp u hu _ hlast
    generalize lap * (xs.getLast hne / lap) = w at *
    omega)
  have e1 : (xs.map (· + c)).map (· % lap) = xs.map (· % lap) := by
    rw [List.map_map]
    refine List.map_congr_left fun x _ => ?_
    show (x + c) % lap = x % lap
    rw [hcdef, show x + -(lap * (xs.getLast hne / lap)) = x + lap * (-(xs.getLast hne / lap)) by grind, Int.add_mul_emod_self_left]
  rw [e1] at a1
  have ez : zs = sortI (xs.map (· % lap)) := sortI_eq a1 (a2.imp fun h => by omega)
  have hzl : zs.length = xs.length := by rw [a1.length_eq, List.length_map]
  have gz : Good lap zs := ⟨h1, h2, by omega, by omega, a3, a2⟩
  rw [← ez]
  refine ⟨gz, ?_⟩
  rw [DD_gaps gz]
  rw [DD_add] at a4
  exact a4
theorem good_cyc {lap : Int} {ts : List Int} (g : Good lap ts) : Cyc lap ts := ⟨g.asc, fun x hx y hy => by have := g.rg x hx; have := g.rg y hy; omega⟩
/-! what hangs on the gaps alone, in any sequence -/
theorem sum_perm {a b : List Int} (h : a.Perm b) : a.sum = b.sum := by
  induction h with
  | nil => rfl
  | cons x _ ih => rw [List.sum_cons, List.sum_cons, ih]
  | swap x y l => rw [List.sum_cons, List.sum_cons, List.sum_cons, List.sum_cons]; omega
  | trans _ _ h1 h2 => exact h1.trans h2
theorem sq_perm {a b : List Int} (h : a.Perm b) : sq a = sq b := sum_perm (h.map _)
theorem max_perm {a b : List Int} (h : a.Perm b) (hn : a ≠ []) : maxI a = maxI b := by
  obtain ⟨h1, h2⟩ := maxI_spec hn
  exact maxI_eq (h.mem_iff.mp h1) fun y hy => h2 y (h.mem_iff.mpr hy)
theorem min_perm {a b : List Int} (h : a.Perm b) (hn : a ≠ []) : minI a = minI b := by
  obtain ⟨h1, h2⟩ := minI_spec hn
  exact minI_eq (h.mem_iff.mp h1) fun y hy => h2 y (h.mem_iff.mpr hy)
theorem mean_perm {lap : Int} {a b : List Int} (h : (gaps lap a).Perm (gaps lap b)) : meanP lap a = meanP lap b := by
  unfold meanP
  rw [sq_perm h]
theorem worst_perm {lap : Int} {a b : List Int} (ha : 0 < a.length) (h : (gaps lap a).Perm (gaps lap b)) : (worst lap a).1 = (worst lap b).1 := by
  show maxI (gaps lap a) - 1 = maxI (gaps lap b) - 1
  rw [max_perm h (gaps_ne ha)]
theorem told_perm {lap : Int} {a b : List Int} (ha : 0 < a.length) (h : (gaps lap a).Perm (gaps lap b)) : told lap a = told lap b := by
  unfold told
  rw [max_perm h (gaps_ne ha)]
  refine List.map_congr_left fun k _ => ?_
  rw [(h.filter _).length_eq]
/-! ### the other way about -/
def mirror (lap : Int) (ts : List Int) : List Int := sortI (ts.map fun t => (-t) % lap)
def neg (ts : List Int) : List Int := (ts.map fun t => -t).reverse
theorem neg_len (ts : List Int) : (neg ts).length = ts.length := by unfold neg; rw [List.length_reverse, List.length_map]
theorem neg_cyc {lap : Int} {ts : List Int} (h : Cyc lap ts) : Cyc lap (neg ts) := by
  unfold neg
  refine ⟨List.pairwise_reverse.mpr (List.pairwise_map.mpr (h.asc.imp fun h => by omega)), fun x hx y hy => ?_⟩
  obtain ⟨u, hu, rfl⟩ := List.mem_map.mp (List.mem_reverse.mp hx)
  obtain ⟨v, hv, rfl⟩ := List.mem_map.mp (List.mem_reverse.mp hy)
  have := h.sp v hv u hu
  omega
def dif : List Int → List Int
  | [] => []
  | x :: xs => chainG x xs
theorem dif_snoc (x : Int) (xs : List Int) (y : Int) : dif ((x :: xs) ++ [y]) = dif (x :: xs) ++ [y - lastD x xs] := by
  show chainG x (xs ++ [y]) = chainG x xs ++ [y - lastD x xs]
  rw [chainG_app]
  rfl
theorem dif_neg : ∀ l : List Int, dif (neg l) = (dif l).reverse
  | [] => rfl
  | [x] => rfl
  | x :: y :: ys => by
    have ih := dif_neg (y :: ys)
    have e : neg (x :: y :: ys) = neg (y :: ys) ++ [-x] := by
      unfold neg
      rw [List.map_cons, List.reverse_cons]
    have hl : ∃ z zs, neg (y :: ys) = z :: zs ∧ lastD z zs = -y := by
      have e2 : neg (y :: ys) = neg ys ++ [-y] := by
        unfold neg
        rw [List.map_cons, List.reverse_cons]
      rw [e2]
      cases neg ys with
      | nil => exact ⟨-y, [], rfl, rfl⟩
      | cons z zs => exact ⟨z, zs ++ [-y], rfl, lastD_snoc zs z (-y)⟩
    obtain ⟨z, zs, e3, e4⟩ := hl
    rw [e, e3, dif_snoc, e4, ← e3, ih]
    show _ = ((y - x) :: dif (y :: ys)).reverse
    rw [List.reverse_cons]
    congr 2
    omega
theorem DD_neg (lap : Int) (ts : List Int) : (DD lap (neg ts)).Perm (DD lap ts) := by
  cases ts with
  | nil => exact List.Perm.refl _
  | cons t r =>
    have e1 : neg (t :: r) = neg r ++ [-t] := by unfold neg; rw [List.map_cons, List.reverse_cons]
    have e2 : -t = (-t - lap) + lap := by omega
    rw [e1, e2]
    refine (DD_rot lap (-t - lap) (neg r)).trans ?_
    have e3 : DD lap ((-t - lap) :: neg r) = dif (neg (t :: (r ++ [t + lap]))) := by
      have : neg (t :: (r ++ [t + lap])) = (-t - lap) :: (neg r ++ [-t]) := by
        unfold neg
        rw [List.map_cons, List.map_append, List.reverse_cons, List.reverse_append]
        show [-(t + lap)] ++ (r.map fun t => -t).reverse ++ [-t] = _
        rw [show -(t + lap) = -t - lap by omega]
        rfl
      rw [this]
      show chainG (-t - lap) (neg r ++ [-t - lap + lap]) = chainG (-t - lap) (neg r ++ [-t])
      rw [show -t - lap + lap = -t by omega]
    rw [e3, dif_neg]
    exact List.reverse_perm _
theorem mirror_facts {lap : Int} {ts : List Int} (g : Good lap ts) : Good lap (mirror lap ts) ∧ (gaps lap (mirror lap ts)).Perm (gaps lap ts) := by
  obtain ⟨a, b⟩ := gaps_mod g.l1 g.l2 (xs := neg ts) (by rw [neg_len]; exact g.ne) (by rw [neg_len]; exact g.le) (neg_cyc (good_cyc g))
  have e : sortI ((neg ts).map (· % lap)) = mirror lap ts := by
    unfold mirror
    refine sortI_eq ((sortI_perm _).trans ?_) (sortI_sorted _)
    unfold neg
    rw [List.map_reverse, List.map_map]
    exact List.reverse_perm _
  rw [e] at a b
  refine ⟨a, b.trans ?_⟩
  rw [DD_gaps g]
  exact DD_neg lap ts
end S18

namespace S18
open PySem PySem.Spec PyProof.Rows L2 AL
def without (ts : List Int) (t : Int) : List Int := ts.filter fun o => !decide (o = t)
def putT (lap : Int) (ts ls : List Int) : List Int := sortI ((ts.zip ls).map fun p => (p.1 + p.2) % lap)
def chs (late : Int) (b : Bool) : List Int := if b = true then [0, late] else rng (late + 1).toNat
def sgn (b : Bool) : Int := if b = true then -1 else 1
structure OptL (lap : Int) (ts : List Int) (late : Int) (b : Bool) (ls : List Int) : Prop where
  l : ls.length = ts.length
  c : ∀ x ∈ ls, x ∈ chs late b
  o : ∀ ls' : List Int, ls'.length = ts.length → (∀ x ∈ ls', x ∈ chs late b) → sgn b * cc (gaps lap ts) ls ≤ sgn b * cc (gaps lap ts) ls'
theorem chs_rg {late : Int} (h : 0 ≤ late) (b : Bool) : ∀ x ∈ chs late b, 0 ≤ x ∧ x ≤ late := by
  intro x hx
  cases b with
  | true =>
    have hx : x ∈ [0, late] := hx
    rcases List.mem_cons.mp hx with e | e
    · omega
    · have := List.mem_singleton.mp e; omega
  | false =>
    have hx : x ∈ rng (late + 1).toNat := hx
    have := rng_mem.mp hx
    omega
theorem chs_rev {late x : Int} (h : 0 ≤ late) {b : Bool} (hx : x ∈ chs late b) : late - x ∈ chs late b := by
  cases b with
  | true =>
    have hx : x ∈ [0, late] := hx
    show late - x ∈ [0, late]
    rcases List.mem_cons.mp hx with e | e
    · rw [e, Int.sub_zero]; exact List.mem_cons_of_mem _ List.mem_cons_self
    · rw [List.mem_singleton.mp e, Int.sub_self]; exact List.mem_cons_self
  | false =>
    have hx : x ∈ rng (late + 1).toNat := hx
    have := rng_mem.mp hx
    exact rng_mem.mpr (by omega)
theorem put_len (lap : Int) (ts ls : List Int) (h : ls.length = ts.length) : (putT lap ts ls).length = ts.length := by
  unfold putT
  rw [(sortI_perm _).length_eq, List.length_map, List.length_zip]
  omega
theorem opt_one {lap late t : Int} {b : Bool} (hg : Good lap [t]) (hl : 0 ≤ late) : OptL lap [t] late b [0] ∧ putT lap [t] [0] = [t] := by
  have hr := hg.rg t List.mem_cons_self
  refine ⟨⟨rfl, fun x hx => ?_, fun ls' h1 h2 => ?_⟩, ?_⟩
  · rw [List.mem_singleton.mp hx]
    cases b with
    | true => exact List.mem_cons_self
    | false => exact rng_mem.mpr (by omega)
  · have hgl := gaps_len lap [t] (Nat.succ_pos 0)
    cases eg : gaps lap [t] with
    | nil => rw [eg] at hgl; cases hgl
    | cons g gs =>
      cases ls' with
      | nil => cases h1
      | cons l ls =>
        cases ls with
        | cons _ _ => cases h1
        | nil =>
          cases gs with
          | cons _ _ => rw [eg] at hgl; cases hgl
          | nil =>
            have e1 : cc [g] [0] = cc [g] [l] := by
              show sq [g + 0 - 0] = sq [g + l - l]
              rw [show g + 0 - 0 = g by omega, show g + l - l = g by omega]
            rw [e1]
            exact Int.le_refl _
  · show sortI [(t + 0) % lap] = [t]
    rw [Int.add_zero, Int.emod_eq_of_lt hr.1 hr.2]
    rfl
/-! ### each put later by its own number -/
abbrev addZ (us ms : List Int) : List Int := (us.zip ms).map fun p => p.1 + p.2
theorem chain_far {d : Int} (hd : 0 ≤ d) : ∀ (ts : List Int) (s : Int), (∀ g ∈ chainG s ts, d < g) → (s :: ts).Pairwise fun a b => a + d < b
  | [], s, _ => List.pairwise_singleton _ _
  | t :: ts, s, h => by
    have h1 : d < t - s := h (t - s) List.mem_cons_self
    have ih := chain_far hd ts t fun g hg => h g (List.mem_cons_of_mem _ hg)
    refine List.pairwise_cons.mpr ⟨fun u hu => ?_, ih⟩
    rcases List.mem_cons.mp hu with e | e
    · omega
    · have := (List.pairwise_cons.mp ih).1 u e; omega
theorem add_asc {d : Int} : ∀ (us ms : List Int), us.Pairwise (fun a b => a + d < b) → (∀ m ∈ ms, 0 ≤ m ∧ m ≤ d) → (addZ us ms).Pairwise (· < ·)
  | [], ms, _, _ => List.Pairwise.nil
  | u :: us, [], _, _ => List.Pairwise.nil
  | u :: us, m :: ms, h, hm => by
    obtain ⟨h1, h2⟩ := List.pairwise_cons.mp h
    refine List.pairwise_cons.mpr ⟨fun x hx => ?_, add_asc us ms h2 fun x hx => hm x (List.mem_cons_of_mem _ hx)⟩
    obtain ⟨⟨a, b⟩, hp, rfl⟩ := List.mem_map.mp hx
    have q1 := h1 a (List.of_mem_zip hp).1
    have q2 := hm b (List.mem_cons_of_mem _ (List.of_mem_zip hp).2)
    have q3 := hm m List.mem_cons_self
    show u + m < a + b
    omega
theorem chain_path : ∀ (us ms : List Int) (s l : Int), us.length = ms.length → chainG (s + l) (addZ us ms) = pathG (chainG s us) l ms
  | [], [], s, l, _ => rfl
  | u :: us, m :: ms, s, l, h => by
    show (u + m - (s + l)) :: chainG (u + m) (addZ us ms) = (u - s + m - l) :: pathG (chainG u us) m ms
    rw [chain_path us ms u m (by simpa using h), show u + m - (s + l) = u - s + m - l by omega]
theorem add_len (us ms : List Int) (h : us.length = ms.length) : (addZ us ms).length = us.length := by
  rw [List.length_map, List.length_zip]
  omega
theorem put_eq (lap : Int) (ts ls : List Int) : putT lap ts ls = sortI ((addZ ts ls).map (· % lap)) := by
  unfold putT
  rw [List.map_map]
  rfl
theorem put_cyc {lap late : Int} {ts ls : List Int} (g : Good lap ts) (hl : ls.length = ts.length) (hd : 0 ≤ late) (hr : ∀ x ∈ ls, 0 ≤ x ∧ x ≤ late) (hm : 1 < ts.length → late < minI (gaps lap ts)) : Cyc lap (addZ ts ls) := by
  have h1 := g.l1
  cases ts with
  | nil => exact absurd g.ne (Nat.lt_irrefl 0)
  | cons t r =>
    cases r with
    | nil =>
      cases ls with
      | nil => cases hl
      | cons l ls =>
        cases ls with
        | cons _ _ => cases hl
        | nil =>
          refine ⟨List.pairwise_singleton _ _, fun x hx y hy => ?_⟩
          have e1 := List.mem_singleton.mp (show x ∈ [t + l] from hx)
          have e2 := List.mem_singleton.mp (show y ∈ [t + l] from hy)
          omega
    | cons u r =>
      have hm := hm (by simp)
      have hall : ∀ x ∈ gaps lap (t :: u :: r), late < x := fun x hx => by
        have := (minI_spec (gaps_ne (lap := lap) g.ne)).2 x hx
        omega
      rw [gaps_chain g] at hall
      have far := chain_far hd _ _ hall
      have far2 : (t :: u :: r).Pairwise fun a b => a + late < b := far.sublist (List.Sublist.cons_cons _ (List.sublist_append_left _ _))
      have fin : ∀ x ∈ t :: u :: r, x + late < t + lap := by
        have e : t :: (u :: r ++ [t + lap]) = (t :: u :: r) ++ [t + lap] := rfl
        rw [e] at far
        exact fun x hx => (List.pairwise_append.mp far).2.2 x hx (t + lap) (List.mem_singleton.mpr rfl)
      have low : ∀ x ∈ t :: u :: r, t ≤ x := fun x hx => by
        rcases List.mem_cons.mp hx with e | e
        · omega
        · have := (List.pairwise_cons.mp g.asc).1 x e; omega
      refine ⟨add_asc _ _ far2 hr, fun x hx y hy => ?_⟩
      obtain ⟨⟨a, b⟩, hp, rfl⟩ := List.mem_map.mp hx
      obtain ⟨⟨c, d⟩, hq, rfl⟩ := List.mem_map.mp hy
      have q1 := low a (List.of_mem_zip hp).1
      have q2 := fin c (List.of_mem_zip hq).1
      have q3 := hr b (List.of_mem_zip hp).2
      have q4 := hr d (List.of_mem_zip hq).2
      show c + d < a + b + lap
      omega
theorem put_facts {lap late : Int} {ts ls : List Int} (g : Good lap ts) (hl : ls.length = ts.length) (hd : 0 ≤ late) (hr : ∀ x ∈ ls, 0 ≤ x ∧ x ≤ late) (hm : 1 < ts.length → late < minI (gaps lap ts)) :
    Good lap (putT lap ts ls) ∧ (gaps lap (putT lap ts ls)).Perm (DD lap (addZ ts ls)) ∧ sq (gaps lap (putT lap ts ls)) = cc (gaps lap ts) ls := by
  have hal := add_len ts ls hl.symm
  have hne := g.ne
  have hle := g.le
  obtain ⟨a, b⟩ := gaps_mod g.l1 g.l2 (by omega) (by omega) (put_cyc g hl hd hr hm)
  rw [← put_eq] at a b
  refine ⟨a, b, ?_⟩
  rw [sq_perm b]
  cases ts with
  | nil => exact absurd g.ne (Nat.lt_irrefl 0)
  | cons t r =>
    cases ls with
    | nil => cases hl
    | cons l ls =>
      have hl2 : r.length = ls.length := by simpa using hl.symm
      rw [gaps_chain g]
      show sq (chainG (t + l) (addZ r ls ++ [t + l + lap])) = sq (pathG (chainG t (r ++ [t + lap])) l (ls ++ [l]))
      rw [← chain_path (r ++ [t + lap]) (ls ++ [l]) t l (by rw [List.length_append, List.length_append, hl2]; rfl)]
      have e : addZ (r ++ [t + lap]) (ls ++ [l]) = addZ r ls ++ [t + l + lap] := by
        show ((r ++ [t + lap]).zip (ls ++ [l])).map _ = _
        rw [List.zip_append hl2, List.map_append]
        show _ ++ [t + lap + l] = _
        rw [show t + lap + l = t + l + lap by omega]
      rw [e]
theorem perm_lift {α β : Type} {f : α → β} : ∀ (as : List β) (ps : List α), as.Perm (ps.map f) → ∃ qs : List α, qs.Perm ps ∧ qs.map f = as
  | [], ps, h => by
    have := h.length_eq
    rw [List.length_map] at this
    exact ⟨[], by rw [List.eq_nil_of_length_eq_zero this.symm], rfl⟩
  | a :: as, ps, h => by
    have ha : a ∈ ps.map f := h.mem_iff.mp List.mem_cons_self
    obtain ⟨p, hp, rfl⟩ := List.mem_map.mp ha
    obtain ⟨s, t, rfl⟩ := List.append_of_mem hp
    have h2 : (f p :: as).Perm (f p :: (s ++ t).map f) := by
      refine h.trans ?_
      rw [List.map_append, List.map_cons, List.map_append]
      exact List.perm_middle
    obtain ⟨qs, h3, h4⟩ := perm_lift as (s ++ t) h2.cons_inv
    exact ⟨p :: qs, (h3.cons p).trans List.perm_middle.symm, by rw [List.map_cons, h4]⟩
theorem zip_fs {α β : Type} : ∀ qs : List (α × β), (qs.map Prod.fst).zip (qs.map Prod.snd) = qs
  | [] => rfl
  | q :: qs => by rw [List.map_cons, List.map_cons, List.zip_cons_cons, zip_fs qs]
theorem sortI_perm_eq {a b : List Int} (h : a.Perm b) : sortI a = sortI b := (sortI_eq ((sortI_perm a).trans h) (sortI_sorted a))
theorem mirror_put {lap late : Int} {ts ls : List Int} (g : Good lap ts) (hl : ls.length = ts.length) (hd : 0 ≤ late) (hr : ∀ x ∈ ls, 0 ≤ x ∧ x ≤ late) (hm : 1 < ts.length → late < minI (gaps lap ts)) :
    ∃ ls' : List Int, ls'.length = (mirror lap ts).length ∧ (∀ x ∈ ls', ∃ y ∈ ls, x = late - y) ∧ (gaps lap (putT lap (mirror lap ts) ls')).Perm (gaps lap (putT lap ts ls)) := by
  obtain ⟨gp, pp, _⟩ := put_facts g hl hd hr hm
  have hal := add_len ts ls hl.symm
  have hne := g.ne
  have hle := g.le
  have h0 : (mirror lap ts).Perm (((ts.zip ls).map fun p => ((-p.1) % lap, late - p.2)).map Prod.fst) := by
    unfold mirror
    refine (sortI_perm _).trans ?_
    rw [List.map_map]
    have e : ts.map (fun t => (-t) % lap) = (ts.zip ls).map (fun p => (-p.1) % lap) := by
      conv => lhs; rw [← List.map_fst_zip (l₁ := ts) (l₂ := ls) (by omega)]
      rw [List.map_map]
      rfl
    rw [e]
    exact List.Perm.refl _
  obtain ⟨qs, h1, h2⟩ := perm_lift _ _ h0
  have hz : (mirror lap ts).zip (qs.map Prod.snd) = qs := by
    rw [← h2]
    exact zip_fs qs
  refine ⟨qs.map Prod.snd, by rw [List.length_map, ← h2, List.length_map], fun x hx => ?_, ?_⟩
  · obtain ⟨q, hq, rfl⟩ := List.mem_map.mp hx
    obtain ⟨p, hp, rfl⟩ := List.mem_map.mp (h1.mem_iff.mp hq)
    exact ⟨p.2, (List.of_mem_zip (show (p.1, p.2) ∈ ts.zip ls from hp)).2, rfl⟩
  · have hc := put_cyc g hl hd hr hm
    have hc2 : Cyc lap ((neg (addZ ts ls)).map (· + late)) := by
      have hn := neg_cyc hc
      refine ⟨List.pairwise_map.mpr (hn.asc.imp fun h => by omega), fun x hx y hy => ?_⟩
      obtain ⟨u, hu, rfl⟩ := List.mem_map.mp hx
      obtain ⟨v, hv, rfl⟩ := List.mem_map.mp hy
      have := hn.sp u hu v hv
      omega
    obtain ⟨a, b⟩ := gaps_mod g.l1 g.l2 (by rw [List.length_map, neg_len]; omega) (by rw [List.length_map, neg_len]; omega) hc2
    have e : sortI (((neg (addZ ts ls)).map (· + late)).map (· % lap)) = putT lap (mirror lap ts) (qs.map Prod.snd) := by
      unfold putT
      rw [hz]
      refine sortI_perm_eq ?_
      refine List.Perm.trans ?_ (h1.map _).symm
      unfold neg
      rw [List.map_reverse, List.map_reverse]
      refine (List.reverse_perm _).trans ?_
      rw [List.map_map, List.map_map, List.map_map, List.map_map]
      have : ∀ p : Int × Int, (((-(p.1 + p.2)) + late) % lap) = (((-p.1) % lap + (late - p.2)) % lap) := fun p => by
        rw [Int.emod_add_emod]
        congr 1
        omega
      refine List.Perm.of_eq (List.map_congr_left fun p _ => ?_)
      exact this p
    rw [e] at b
    refine b.trans ?_
    rw [DD_add]
    exact (DD_neg lap _).trans pp.symm
theorem mirror_mirror {lap : Int} {ts : List Int} (g : Good lap ts) : mirror lap (mirror lap ts) = ts := by
  have h1 := g.l1
  have hs : sortI ts = ts := (sortI_eq (List.Perm.refl ts) (g.asc.imp fun h => by omega)).symm
  have e : mirror lap (mirror lap ts) = sortI ts := by
    refine sortI_perm_eq (((sortI_perm _).map _).trans ?_)
    rw [List.map_map]
    refine List.Perm.of_eq ?_
    have := List.map_congr_left (f := (fun t => (-t) % lap) ∘ fun t => (-t) % lap) (g := fun t => t) (l := ts) fun t ht => by
      show (-((-t) % lap)) % lap = t
      have r := g.rg t ht
      have e2 := Int.emod_add_mul_ediv (-t) lap
      have e3 : -((-t) % lap) = t + lap * ((-t) / lap) := by omega
      rw [e3, Int.add_mul_emod_self_left]
      exact Int.emod_eq_of_lt r.1 r.2
    rw [this, List.map_id']
  rw [e, hs]
theorem opt_le {lap late : Int} {b : Bool} {ts ls ls2 : List Int} (g : Good lap ts) (hd : 0 ≤ late) (hm : 1 < ts.length → late < minI (gaps lap ts)) (h1 : OptL lap ts late b ls) (h2 : OptL lap (mirror lap ts) late b ls2) :
    sgn b * cc (gaps lap (mirror lap ts)) ls2 ≤ sgn b * cc (gaps lap ts) ls := by
  obtain ⟨gm, pm⟩ := mirror_facts g
  have hr : ∀ x ∈ ls, 0 ≤ x ∧ x ≤ late := fun x hx => chs_rg hd b x (h1.c x hx)
  obtain ⟨ls', k1, k2, k3⟩ := mirror_put g h1.l hd hr hm
  have hc : ∀ x ∈ ls', x ∈ chs late b := fun x hx => by
    obtain ⟨y, hy, rfl⟩ := k2 x hx
    exact chs_rev hd (h1.c y hy)
  have hlm : (mirror lap ts).length = ts.length := by unfold mirror; rw [(sortI_perm _).length_eq, List.length_map]
  have hm2 : 1 < (mirror lap ts).length → late < minI (gaps lap (mirror lap ts)) := fun q => by
    rw [min_perm pm (gaps_ne gm.ne)]
    exact hm (by omega)
  have e1 := (put_facts g h1.l hd hr hm).2.2
  have e2 := (put_facts gm k1 hd (fun x hx => chs_rg hd b x (hc x hx)) hm2).2.2
  have e3 := sq_perm k3
  have := h2.o ls' k1 hc
  rw [← e2, e3, e1] at this
  exact this
theorem opt_mirror {lap late : Int} {b : Bool} {ts ls ls2 : List Int} (g : Good lap ts) (hd : 0 ≤ late) (hm : 1 < ts.length → late < minI (gaps lap ts)) (h1 : OptL lap ts late b ls) (h2 : OptL lap (mirror lap ts) late b ls2) :
    meanP lap (putT lap (mirror lap ts) ls2) = meanP lap (putT lap ts ls) := by
  obtain ⟨gm, pm⟩ := mirror_facts g
  have hlm : (mirror lap ts).length = ts.length := by unfold mirror; rw [(sortI_perm _).length_eq, List.length_map]
  have hm2 : 1 < (mirror lap ts).length → late < minI (gaps lap (mirror lap ts)) := fun q => by
    rw [min_perm pm (gaps_ne gm.ne)]
    exact hm (by omega)
  have a := opt_le g hd hm h1 h2
  have c := opt_le gm hd hm2 h2 (by rw [mirror_mirror g]; exact h1)
  rw [mirror_mirror g] at c
  have e1 := (put_facts g h1.l hd (fun x hx => chs_rg hd b x (h1.c x hx)) hm).2.2
  have e2 := (put_facts gm h2.l hd (fun x hx => chs_rg hd b x (h2.c x hx)) hm2).2.2
  have e : cc (gaps lap (mirror lap ts)) ls2 = cc (gaps lap ts) ls := by
    cases b with
    | true => simp only [sgn, if_true] at a c; omega
    | false => simp only [sgn] at a c; simp at a c; omega
  unfold meanP
  rw [e1, e2, e]
end S18

namespace S18
open PySem PySem.Spec PyProof.Rows L2 AL
/-! ### one more again and again -/
theorem mean_WS {lap : Int} {ts : List Int} (g : Good lap ts) : meanP lap ts = fr (2 * WS lap ts) (2 * lap) := by
  unfold meanP
  rw [sq_eq g]
theorem mean_ws {lap : Int} {ts : List Int} (g : Good lap ts) : meanP lap ts = fr (WS lap ts) lap := by
  have h1 := g.l1
  rw [mean_WS g]
  exact fr_cross (by omega) (by omega) (by grind)
theorem mean_lt {lap : Int} {a b : List Int} (ga : Good lap a) (gb : Good lap b) : ltP (meanP lap a) (meanP lap b) ↔ WS lap a < WS lap b := by
  have h1 := ga.l1
  rw [mean_ws ga, mean_ws gb]
  exact ltP_fr (by omega)
theorem free_spec {lap : Int} {ts : List Int} {m : Int} (hl : 0 ≤ lap) : m ∈ free lap ts ↔ (0 ≤ m ∧ m < lap) ∧ m ∉ ts := by
  unfold free
  rw [List.mem_filter, rng_mem]
  constructor
  · rintro ⟨a, b⟩
    exact ⟨by omega, by simpa using b⟩
  · rintro ⟨a, b⟩
    exact ⟨by omega, by simpa using b⟩
def more (ts : List Int) (m : Int) : List Int := sortI (ts ++ [m])
theorem more_mem {ts : List Int} {m x : Int} : x ∈ more ts m ↔ x ∈ ts ∨ x = m := by
  unfold more
  rw [(sortI_perm _).mem_iff, List.mem_append, List.mem_singleton]
theorem more_len (ts : List Int) (m : Int) : (more ts m).length = ts.length + 1 := by
  unfold more
  rw [(sortI_perm _).length_eq, List.length_append]
  rfl
theorem more_good {lap : Int} {ts : List Int} {m : Int} (g : Good lap ts) (hl : ts.length < 60) (hm : m ∈ free lap ts) : Good lap (more ts m) := by
  have h1 := g.l1
  obtain ⟨hr, hn⟩ := (free_spec (by omega)).mp hm
  refine ⟨g.l1, g.l2, by rw [more_len]; omega, by rw [more_len]; omega, fun t ht => ?_, ?_⟩
  · rcases more_mem.mp ht with e | e
    · exact g.rg t e
    · rw [e]; exact hr
  · refine strict_of ?_ (sortI_sorted _)
    refine ((sortI_perm (ts ++ [m])).nodup_iff).mpr ?_
    refine List.nodup_append.mpr ⟨g.asc.imp fun h => by omega, by simp, fun a ha b hb e => ?_⟩
    rw [List.mem_singleton.mp hb] at e
    exact hn (by rw [← e]; exact ha)
theorem more_wait {lap : Int} {ts : List Int} {m x : Int} (h : 0 < ts.length) : waitBy lap (more ts m) x = min (waitBy lap ts x) ((m - x) % lap) := by
  obtain ⟨⟨t, ht, e⟩, hall⟩ := wait_spec (lap := lap) h x
  refine wait_eq ?_ fun u hu => ?_
  · by_cases z : waitBy lap ts x ≤ (m - x) % lap
    · rw [Int.min_eq_left z]
      exact ⟨t, more_mem.mpr (.inl ht), e⟩
    · rw [Int.min_eq_right (by omega)]
      exact ⟨m, more_mem.mpr (.inr rfl), rfl⟩
  · rcases more_mem.mp hu with q | q
    · have := hall u q
      have := Int.min_le_left (waitBy lap ts x) ((m - x) % lap)
      omega
    · rw [q]; exact Int.min_le_right _ _
theorem sum_sub (xs : List Int) (f g : Int → Int) : (xs.map fun x => f x - g x).sum = (xs.map f).sum - (xs.map g).sum := by
  induction xs with
  | nil => rfl
  | cons x xs ih => rw [List.map_cons, List.sum_cons, List.map_cons, List.sum_cons, List.map_cons, List.sum_cons, ih]; omega
/-- what a further minute takes off the waits: less, the more there are -/
theorem more_less {lap : Int} {a b : List Int} {m : Int} (ha : 0 < a.length) (hb : 0 < b.length) (h : ∀ t ∈ a, t ∈ b) : WS lap b - WS lap (more b m) ≤ WS lap a - WS lap (more a m) := by
  unfold WS
  rw [← sum_sub, ← sum_sub]
  refine sum_le fun x _ => ?_
  rw [more_wait ha, more_wait hb]
  have := wait_sub (lap := lap) ha hb h x
  omega
theorem more_nn {lap : Int} {a : List Int} {m : Int} (ha : 0 < a.length) : 0 ≤ WS lap a - WS lap (more a m) := by
  unfold WS
  rw [← sum_sub]
  refine sum_nn fun x _ => ?_
  rw [more_wait ha]
  omega
theorem without_more {lap : Int} {ts : List Int} {m : Int} (g : Good lap ts) (hl : ts.length < 60) (hm : m ∈ free lap ts) : without (more ts m) m = ts := by
  have h1 := g.l1
  obtain ⟨_, hn⟩ := (free_spec (by omega)).mp hm
  have gm := more_good g hl hm
  refine ssorted_one _ _ (fun k => ?_) (gm.asc.filter _) g.asc
  unfold without
  rw [List.mem_filter, more_mem]
  constructor
  · rintro ⟨a, b⟩
    rcases a with a | a
    · exact a
    · rw [a] at b; simp at b
  · intro a
    refine ⟨.inl a, ?_⟩
    have : k ≠ m := fun e => hn (by rw [← e]; exact a)
    simpa using this
theorem step_fr {lap : Int} {a b : List Int} (ga : Good lap a) (gb : Good lap b) :
    fr ((meanP lap a).1 * (meanP lap b).2 - (meanP lap b).1 * (meanP lap a).2) ((meanP lap a).2 * (meanP lap b).2) = fr (WS lap a - WS lap b) lap := by
  have h1 := ga.l1
  have da := meanP_den a h1 ga.l2
  have db := meanP_den b h1 gb.l2
  have e1 := fr_eq (a := WS lap a) (b := lap) (by omega)
  have e2 := fr_eq (a := WS lap b) (b := lap) (by omega)
  rw [← mean_ws ga] at e1
  rw [← mean_ws gb] at e2
  refine fr_cross (Int.mul_pos da.1 db.1) (by omega) ?_
  generalize (meanP lap a).1 = p at *
  generalize (meanP lap a).2 = q at *
  generalize (meanP lap b).1 = r at *
  generalize (meanP lap b).2 = s at *
  grind
/-- the first step's bounds -/
theorem step_bd {lap : Int} {a b : List Int} (ga : Good lap a) (gb : Good lap b) (h : WS lap b ≤ WS lap a) :
    0 ≤ (meanP lap a).1 * (meanP lap b).2 - (meanP lap b).1 * (meanP lap a).2 ∧ (meanP lap a).1 * (meanP lap b).2 - (meanP lap b).1 * (meanP lap a).2 < 2 ^ 60 ∧ 0 < (meanP lap a).2 * (meanP lap b).2 ∧ (meanP lap a).2 * (meanP lap b).2 < 2 ^ 29 := by
  obtain ⟨a1, a2, a3, a4, _⟩ := mean_facts ga
  obtain ⟨b1, b2, b3, b4, _⟩ := mean_facts gb
  have hn : ¬ ltP (meanP lap a) (meanP lap b) := fun z => by have := (mean_lt ga gb).mp z; omega
  unfold ltP at hn
  generalize (meanP lap a).1 = p at *
  generalize (meanP lap a).2 = q at *
  generalize (meanP lap b).1 = r at *
  generalize (meanP lap b).2 = s at *
  have h1 : 0 ≤ r * q := Int.mul_nonneg b1 (by omega)
  have h2 : p * s ≤ 2 ^ 23 * 2880 := Int.mul_le_mul a2 b4 (by omega) (by decide)
  have h3 : q * s ≤ 2880 * 2880 := Int.mul_le_mul a4 b4 (by omega) (by decide)
  exact ⟨by omega, by omega, Int.mul_pos a3 b3, by omega⟩
theorem less_fr {a b n : Int} (hn : 0 < n) (h : b ≤ a) : ¬ ltP (fr a n) (fr b n) := fun z => by have := (ltP_fr hn).mp z; omega
/-! ### enough -/
theorem evens_good {lap n : Int} (h1 : 1 ≤ lap) (h2 : lap ≤ 1440) (hn : 1 ≤ n) (hn2 : n ≤ lap) (hn3 : n ≤ 60) : Good lap (evens lap n) := by
  have hnn : ((n.toNat : Nat) : Int) = n := Int.toNat_of_nonneg (by omega)
  have step : ∀ k : Int, k * lap / n + 1 ≤ (k + 1) * lap / n := by
    intro k
    have d1 := Int.emod_add_mul_ediv (k * lap) n
    have d2 := Int.emod_nonneg (k * lap) (show n ≠ 0 by omega)
    refine (Int.le_ediv_iff_mul_le (by omega)).mpr ?_
    rw [Int.add_mul, Int.add_mul, Int.one_mul, Int.one_mul, Int.mul_comm (k * lap / n) n]
    omega
  have e0 : 0 * lap / n = 0 := by rw [Int.zero_mul, Int.zero_ediv]
  have en : n * lap / n = lap := Int.mul_ediv_cancel_left lap (by omega)
  refine seq_good h1 h2 (by omega) (by omega) (fun k _ _ => by have := step k; omega) (by omega) ?_ fun k hk1 hk2 => ?_
  · rw [hnn, en, e0, Int.zero_add]
  · refine Int.ediv_lt_of_lt_mul (by omega) ?_
    rw [Int.mul_comm lap n]
    exact Int.mul_lt_mul_of_pos_right (by omega) (by omega)
theorem sum_max (m : Int) : ∀ xs : List Int, (∀ x ∈ xs, x ≤ m) → xs.sum ≤ xs.length * m
  | [], _ => by simp
  | x :: xs, h => by
    have ih := sum_max m xs fun y hy => h y (List.mem_cons_of_mem _ hy)
    have := h x List.mem_cons_self
    rw [List.sum_cons, List.length_cons, Int.natCast_add, Int.add_mul]
    simp
    omega
theorem fewer_worst {lap most : Int} (h1 : 1 ≤ lap) (h2 : lap ≤ 1440) (h3 : 0 ≤ most) (h4 : (lap + most) / (most + 1) ≤ 60) (h5 : (lap + most) / (most + 1) ≠ 1) :
    Good lap (evens lap ((lap + most) / (most + 1) - 1)) ∧ (worst lap (evens lap ((lap + most) / (most + 1) - 1))).1 > most := by
  obtain ⟨_, a1, a2⟩ := enough_num h1 h3
  have hp : 0 < most + 1 := by omega
  have e2 := Int.emod_add_mul_ediv (lap + most) (most + 1)
  have l3 := Int.emod_nonneg (lap + most) (show most + 1 ≠ 0 by omega)
  generalize (lap + most) / (most + 1) = n at *
  have g := evens_good h1 h2 (n := n - 1) (by omega) (by omega) (by omega)
  refine ⟨g, ?_⟩
  show maxI (gaps lap (evens lap (n - 1))) - 1 > most
  rcases (show most + 2 ≤ maxI (gaps lap (evens lap (n - 1))) ∨ maxI (gaps lap (evens lap (n - 1))) ≤ most + 1 by omega) with z | z
  · omega
  · exfalso
    have hs := gaps_sum g
    have hb := sum_max (most + 1) (gaps lap (evens lap (n - 1))) fun x hx => by
      have := (maxI_spec (gaps_ne (lap := lap) g.ne)).2 x hx
      omega
    rw [hs, gaps_len lap _ g.ne, evens_len, Int.toNat_of_nonneg (by omega), Int.sub_mul, Int.one_mul] at hb
    have e4 : (most + 1) * n = n * (most + 1) := Int.mul_comm _ _
    omega
end S18

namespace S18
open PySem PySem.Spec PyProof.Rows L2 AL
theorem ltP_no {A U m : Int × Int} (hA : 0 < A.2) (hU : 0 < U.2) (hm : 0 < m.2) (h1 : ¬ ltP A U) (h2 : ¬ ltP U m) : ¬ ltP A m := fun z => h1 (ltP_le hA hm hU z h2)
theorem join_le {lap : Int} {a b : List Int} (ga : Good lap a) (gb : Good lap b) (hs : a.length + b.length ≤ 60) {j : Nat} {m : Int × Int} (hl : Least (joinMeans lap a b) j m) :
    ¬ ltP (meanP lap a) m ∧ ¬ ltP (meanP lap b) m ∧ 0 < m.2 ∧ m.2 ≤ 2880 := by
  have h1 := together_le ga gb hl
  have hd := least_den ga hl
  have hrg : ∀ t ∈ a ++ b, 0 ≤ t ∧ t < lap := fun t ht => (List.mem_append.mp ht).elim (ga.rg t) (gb.rg t)
  have hal : (a ++ b).length = a.length + b.length := List.length_append
  have hne := ga.ne
  obtain ⟨gu, _⟩ := uni_good (lap := lap) (xs := a ++ b) ga.l1 ga.l2 (by omega) (by omega) hrg
  have du := meanP_den (uni lap (a ++ b)) ga.l1 ga.l2
  have da := meanP_den a ga.l1 ga.l2
  have db := meanP_den b ga.l1 ga.l2
  refine ⟨ltP_no da.1 du.1 hd.1 (mean_sub ga gu fun t ht => (uni_mem hrg t).mpr (List.mem_append_left _ ht)) h1, ltP_no db.1 du.1 hd.1 (mean_sub gb gu fun t ht => (uni_mem hrg t).mpr (List.mem_append_right _ ht)) h1, hd⟩
theorem cut6 (ns : List Int) : AL.cutD (dI ns) none (some 6) = dI (ns.take 6) := (cut_to (dI ns) 6).trans (dI_take ns 6)
theorem cut10 (ns : List Int) : AL.cutD (dI ns) none (some 10) = dI (ns.take 10) := (cut_to (dI ns) 10).trans (dI_take ns 10)
theorem neq_false {p q : Int × Int} (h : p = q) : (!(prD p).eqv (prD q)) = false := by rw [h, eqv_prD]; rfl
theorem free_pos {lap : Int} {ts : List Int} (g : Good lap ts) (h : (ts.length : Int) < lap) : 0 < (free lap ts).length := by
  have h1 := g.l1
  rcases Nat.eq_zero_or_pos (free lap ts).length with z | z
  · exfalso
    have z := List.eq_nil_of_length_eq_zero z
    have hall : ∀ k ∈ rng lap.toNat, k ∈ ts := fun k hk => by
      by_cases e : k ∈ ts
      · exact e
      · have : k ∈ free lap ts := (free_spec (by omega)).mpr ⟨by have := rng_mem.mp hk; omega, e⟩
        rw [z] at this; cases this
    have := nodup_len (rng lap.toNat) ts ((rng_sorted _).imp fun h => by omega) hall
    rw [rng_len] at this
    omega
  · exact z
theorem eqvT (ns : List Int) : (PyData.tuple (dI ns)).eqv (.tuple (dI ns)) = true := PySem.SeqAt.eqv_refl (.tuple (dI ns)) (canAll_dI ns)
theorem eqv_pr2 (i : Int) (q : Int × Int) : (PyData.tuple [.int i, prD q]).eqv (PyData.tuple [.int i, prD q]) = true := PySem.SeqAt.eqv_refl (PyData.tuple [.int i, prD q]) rfl
structure RowIn (lap : Int) (now : List Int) (fall : Option Int) : Prop where
  g : Good lap now
  f : ∀ d, fall = some d → ∀ m ∈ free lap now, WS lap now - WS lap (more now m) ≤ d
theorem row_step {lap : Int} {now : List Int} {fall : Option Int} (h : RowIn lap now fall) (hl : now.length < 60) {m : Int} (hm : m ∈ free lap now) (hmin : ∀ n ∈ free lap now, ¬ ltP (meanP lap (more now n)) (meanP lap (more now m))) :
    RowIn lap (more now m) (some (WS lap now - WS lap (more now m))) := by
  have h1 := h.g.l1
  have gm := more_good h.g hl hm
  refine ⟨gm, fun d e n hn => ?_⟩
  cases e
  have hnf : n ∈ free lap now := by
    obtain ⟨q1, q2⟩ := (free_spec (by omega)).mp hn
    exact (free_spec (by omega)).mpr ⟨q1, fun z => q2 (more_mem.mpr (.inl z))⟩
  have e1 := more_less (lap := lap) (m := n) h.g.ne gm.ne (fun t ht => more_mem.mpr (.inl ht))
  have e2 := hmin n hnf
  rw [mean_lt (more_good h.g hl hnf) gm] at e2
  omega
theorem fr_num {a b M : Int} (h0 : 0 ≤ a) (h1 : a ≤ M) (hb : 0 < b) : 0 ≤ (fr a b).1 ∧ (fr a b).1 ≤ M := by
  obtain ⟨k, a', b', hk, ea, eb, ef, _⟩ := fr_parts (a := a) hb
  rw [ef]
  show 0 ≤ a' ∧ a' ≤ M
  rcases (show a' < 0 ∨ 0 ≤ a' by omega) with z | z
  · have := Int.mul_neg_of_pos_of_neg hk z
    omega
  · have := Int.mul_le_mul_of_nonneg_right (show 1 ≤ k by omega) z
    omega
theorem chS_bd {lap c : Int} {one other : List Int} (g1 : Good lap one) (hne : 0 < other.length) : 0 ≤ chS lap one other c ∧ chS lap one other c ≤ 2 ^ 20 := by
  have h1 := g1.l1
  have h2 := g1.l2
  have hle := g1.le
  unfold chS
  refine ⟨sum_nn fun x _ => (wait_rg (by omega) hne _).1, ?_⟩
  have := sum_max 1440 (one.map fun t => waitBy lap other (t + c)) fun x hx => by
    obtain ⟨t, _, rfl⟩ := List.mem_map.mp hx
    have := (wait_rg (lap := lap) (ts := other) (by omega) hne (t + c)).2
    omega
  rw [List.length_map] at this
  omega
theorem change_num {lap c : Int} {one other : List Int} (g1 : Good lap one) (g2 : Good lap other) : 0 ≤ (changeP lap one other c).1 ∧ (changeP lap one other c).1 ≤ 2 ^ 20 ∧ 0 < (changeP lap one other c).2 ∧ (changeP lap one other c).2 ≤ 60 := by
  have hb := chS_bd (c := c) g1 g2.ne
  have hne := g1.ne
  have hn := fr_num (b := one.length) hb.1 hb.2 (by omega)
  exact ⟨hn.1, hn.2, change_bd g1 g2⟩
theorem least_bd {lap c : Int} {one other : List Int} (g1 : Good lap one) (g2 : Good lap other) {j : Nat} {m : Int × Int} (h : Least (shiftMeans lap one other c) j m) : 0 ≤ m.1 ∧ m.1 ≤ 2 ^ 20 ∧ 0 < m.2 ∧ m.2 ≤ 60 := by
  obtain ⟨_, rfl⟩ := shift_at h.1
  have hne := g1.ne
  have hle := g1.le
  have hb := chS_bd (c := c) (other := later lap other j) g1 (by rw [later_len]; exact g2.ne)
  have hn := fr_num (b := one.length) hb.1 hb.2 (by omega)
  have hd := fr_den (a := chS lap one (later lap other j) c) (b := one.length) (by omega)
  exact ⟨hn.1, hn.2, hd.1, by omega⟩
end S18

namespace S18
open PySem PySem.Spec PyProof.Rows L2
def top (i : Nat) : Stmt := PySem.Challenge.pw_howeverlate_k32_whole_lines_times_as_gre.main.body.getD i (.Pass ⟨0, 0, 0, 0⟩)
abbrev s_is_integer : Stmt := top 11
abbrev s_is_between : Stmt := top 12
abbrev s_is_ascending : Stmt := top 13
abbrev s_common : Stmt := top 14
abbrev s_reduced : Stmt := top 15
abbrev s_less : Stmt := top 16
abbrev s_is_fraction : Stmt := top 17
abbrev s_check_lap : Stmt := top 21
abbrev s_are_times : Stmt := top 22
abbrev s_check_times : Stmt := top 23
abbrev s_gaps_of : Stmt := top 24
abbrev s_mean_of : Stmt := top 25
abbrev s_wait_by : Stmt := top 26
abbrev s_wait_at : Stmt := top 27
abbrev s_mean_wait : Stmt := top 28
abbrev s_worst_wait : Stmt := top 29
abbrev s_told_lengths : Stmt := top 30
abbrev s_how_long : Stmt := top 31
abbrev s_half_wait : Stmt := top 32
abbrev s_least_of : Stmt := top 33
abbrev s_one_more : Stmt := top 34
abbrev s_one_less : Stmt := top 35
abbrev s_even_times : Stmt := top 37
abbrev s_check_spread : Stmt := top 38
abbrev s_spread : Stmt := top 39
abbrev s_check_most : Stmt := top 40
abbrev s_enough_for : Stmt := top 41
abbrev s_check_both : Stmt := top 42
abbrev s_put_later : Stmt := top 43
abbrev s_change_by : Stmt := top 44
abbrev s_change_wait : Stmt := top 45
abbrev s_least_shift : Stmt := top 46
abbrev s_best_shift : Stmt := top 47
abbrev s_together : Stmt := top 48
abbrev s_check_late : Stmt := top 51
abbrev s_put_each : Stmt := top 52
abbrev s_cost_of : Stmt := top 53
abbrev s_best_lates : Stmt := top 54
abbrev s_told_lates : Stmt := top 55
abbrev s_at_worst : Stmt := top 56
abbrev s_held : Stmt := top 57
abbrev s__law_pot : Stmt := top 59
abbrev s__law_take : Stmt := top 60
abbrev s__law_of : Stmt := top 61
abbrev s__law_some : Stmt := top 62
abbrev s__law_cells : Stmt := top 63
abbrev s__law_fraction : Stmt := top 64
abbrev s__law_times : Stmt := top 65
abbrev s__law_gaps : Stmt := top 66
abbrev s__law_is_less : Stmt := top 67
abbrev s__law_times_by : Stmt := top 68
abbrev s__law_mirror : Stmt := top 69
abbrev s__law_is_great_right : Stmt := top 70
abbrev s__law_are_two_right : Stmt := top 71
abbrev s__law_is_mirror_right : Stmt := top 72
abbrev s__law_is_row_right : Stmt := top 73
abbrev s__law_is_enough_right : Stmt := top 74
abbrev s__law_right : Stmt := top 75
abbrev s_law : Stmt := top 76
def d_is_integer : He.DefD := ⟨("is_integer", none), "is_integer", "is_integer", defArgs s_is_integer, defBody s_is_integer, defScope s_is_integer, [], []⟩
def d_is_between : He.DefD := ⟨("is_between", none), "is_between", "is_between", defArgs s_is_between, defBody s_is_between, defScope s_is_between, [], []⟩
def d_is_ascending : He.DefD := ⟨("is_ascending", none), "is_ascending", "is_ascending", defArgs s_is_ascending, defBody s_is_ascending, defScope s_is_ascending, [], []⟩
def d_common : He.DefD := ⟨("common", none), "common", "common", defArgs s_common, defBody s_common, defScope s_common, [], []⟩
def d_reduced : He.DefD := ⟨("reduced", none), "reduced", "reduced", defArgs s_reduced, defBody s_reduced, defScope s_reduced, [], []⟩
def d_less : He.DefD := ⟨("less", none), "less", "less", defArgs s_less, defBody s_less, defScope s_less, [], []⟩
def d_is_fraction : He.DefD := ⟨("is_fraction", none), "is_fraction", "is_fraction", defArgs s_is_fraction, defBody s_is_fraction, defScope s_is_fraction, [], []⟩
def d_check_lap : He.DefD := ⟨("check_lap", none), "check_lap", "check_lap", defArgs s_check_lap, defBody s_check_lap, defScope s_check_lap, [], []⟩
def d_are_times : He.DefD := ⟨("are_times", none), "are_times", "are_times", defArgs s_are_times, defBody s_are_times, defScope s_are_times, [], []⟩
def d_check_times : He.DefD := ⟨("check_times", none), "check_times", "check_times", defArgs s_check_times, defBody s_check_times, defScope s_check_times, [], []⟩
def d_gaps_of : He.DefD := ⟨("gaps_of", none), "gaps_of", "gaps_of", defArgs s_gaps_of, defBody s_gaps_of, defScope s_gaps_of, [], []⟩
def d_mean_of : He.DefD := ⟨("mean_of", none), "mean_of", "mean_of", defArgs s_mean_of, defBody s_mean_of, defScope s_mean_of, [], []⟩
def d_wait_by : He.DefD := ⟨("wait_by", none), "wait_by", "wait_by", defArgs s_wait_by, defBody s_wait_by, defScope s_wait_by, [], []⟩
def d_wait_at : He.DefD := ⟨("wait_at", none), "wait_at", "wait_at", defArgs s_wait_at, defBody s_wait_at, defScope s_wait_at, [], []⟩
def d_mean_wait : He.DefD := ⟨("mean_wait", none), "mean_wait", "mean_wait", defArgs s_mean_wait, defBody s_mean_wait, defScope s_mean_wait, [], []⟩
def d_worst_wait : He.DefD := ⟨("worst_wait", none), "worst_wait", "worst_wait", defArgs s_worst_wait, defBody s_worst_wait, defScope s_worst_wait, [], []⟩
def d_told_lengths : He.DefD := ⟨("told_lengths", none), "told_lengths", "told_lengths", defArgs s_told_lengths, defBody s_told_lengths, defScope s_told_lengths, [], []⟩
def d_how_long : He.DefD := ⟨("how_long", none), "how_long", "how_long", defArgs s_how_long, defBody s_how_long, defScope s_how_long, [], []⟩
def d_half_wait : He.DefD := ⟨("half_wait", none), "half_wait", "half_wait", defArgs s_half_wait, defBody s_half_wait, defScope s_half_wait, [], []⟩
def d_least_of : He.DefD := ⟨("least_of", none), "least_of", "least_of", defArgs s_least_of, defBody s_least_of, defScope s_least_of, [], []⟩
def d_one_more : He.DefD := ⟨("one_more", none), "one_more", "one_more", defArgs s_one_more, defBody s_one_more, defScope s_one_more, [], []⟩
def d_one_less : He.DefD := ⟨("one_less", none), "one_less", "one_less", defArgs s_one_less, defBody s_one_less, defScope s_one_less, [], []⟩
def d_even_times : He.DefD := ⟨("even_times", none), "even_times", "even_times", defArgs s_even_times, defBody s_even_times, defScope s_even_times, [], []⟩
def d_check_spread : He.DefD := ⟨("check_spread", none), "check_spread", "check_spread", defArgs s_check_spread, defBody s_check_spread, defScope s_check_spread, [], []⟩
def d_spread : He.DefD := ⟨("spread", none), "spread", "spread", defArgs s_spread, defBody s_spread, defScope s_spread, [], []⟩
def d_check_most : He.DefD := ⟨("check_most", none), "check_most", "check_most", defArgs s_check_most, defBody s_check_most, defScope s_check_most, [], []⟩
def d_enough_for : He.DefD := ⟨("enough_for", none), "enough_for", "enough_for", defArgs s_enough_for, defBody s_enough_for, defScope s_enough_for, [], []⟩
def d_check_both : He.DefD := ⟨("check_both", none), "check_both", "check_both", defArgs s_check_both, defBody s_check_both, defScope s_check_both, [], []⟩
def d_put_later : He.DefD := ⟨("put_later", none), "put_later", "put_later", defArgs s_put_later, defBody s_put_later, defScope s_put_later, [], []⟩
def d_change_by : He.DefD := ⟨("change_by", none), "change_by", "change_by", defArgs s_change_by, defBody s_change_by, defScope s_change_by, [], []⟩
def d_change_wait : He.DefD := ⟨("change_wait", none), "change_wait", "change_wait", defArgs s_change_wait, defBody s_change_wait, defScope s_change_wait, [], []⟩
def d_least_shift : He.DefD := ⟨("least_shift", none), "least_shift", "least_shift", defArgs s_least_shift, defBody s_least_shift, defScope s_least_shift, [], []⟩
def d_best_shift : He.DefD := ⟨("best_shift", none), "best_shift", "best_shift", defArgs s_best_shift, defBody s_best_shift, defScope s_best_shift, [], []⟩
def d_together : He.DefD := ⟨("together", none), "together", "together", defArgs s_together, defBody s_together, defScope s_together, [], []⟩
def d_check_late : He.DefD := ⟨("check_late", none), "check_late", "check_late", defArgs s_check_late, defBody s_check_late, defScope s_check_late, [], []⟩
def d_put_each : He.DefD := ⟨("put_each", none), "put_each", "put_each", defArgs s_put_each, defBody s_put_each, defScope s_put_each, [], []⟩
def d_cost_of : He.DefD := ⟨("cost_of", none), "cost_of", "cost_of", defArgs s_cost_of, defBody s_cost_of, defScope s_cost_of, [], []⟩
def d_best_lates : He.DefD := ⟨("best_lates", none), "best_lates", "best_lates", defArgs s_best_lates, defBody s_best_lates, defScope s_best_lates, [], []⟩
def d_told_lates : He.DefD := ⟨("told_lates", none), "told_lates", "told_lates", defArgs s_told_lates, defBody s_told_lates, defScope s_told_lates, [], []⟩
def d_at_worst : He.DefD := ⟨("at_worst", none), "at_worst", "at_worst", defArgs s_at_worst, defBody s_at_worst, defScope s_at_worst, [], []⟩
def d_held : He.DefD := ⟨("held", none), "held", "held", defArgs s_held, defBody s_held, defScope s_held, [], []⟩
def d__law_pot : He.DefD := ⟨("_law_pot", none), "_law_pot", "_law_pot", defArgs s__law_pot, defBody s__law_pot, defScope s__law_pot, [], []⟩
def d__law_take : He.DefD := ⟨("_law_take", none), "_law_take", "_law_take", defArgs s__law_take, defBody s__law_take, defScope s__law_take, [], []⟩
def d__law_of : He.DefD := ⟨("_law_of", none), "_law_of", "_law_of", defArgs s__law_of, defBody s__law_of, defScope s__law_of, [], []⟩
def d__law_some : He.DefD := ⟨("_law_some", none), "_law_some", "_law_some", defArgs s__law_some, defBody s__law_some, defScope s__law_some, [], []⟩
def d__law_cells : He.DefD := ⟨("_law_cells", none), "_law_cells", "_law_cells", defArgs s__law_cells, defBody s__law_cells, defScope s__law_cells, [], []⟩
def d__law_fraction : He.DefD := ⟨("_law_fraction", none), "_law_fraction", "_law_fraction", defArgs s__law_fraction, defBody s__law_fraction, defScope s__law_fraction, [], []⟩
def d__law_times : He.DefD := ⟨("_law_times", none), "_law_times", "_law_times", defArgs s__law_times, defBody s__law_times, defScope s__law_times, [], []⟩
def d__law_gaps : He.DefD := ⟨("_law_gaps", none), "_law_gaps", "_law_gaps", defArgs s__law_gaps, defBody s__law_gaps, defScope s__law_gaps, [], []⟩
def d__law_is_less : He.DefD := ⟨("_law_is_less", none), "_law_is_less", "_law_is_less", defArgs s__law_is_less, defBody s__law_is_less, defScope s__law_is_less, [], []⟩
def d__law_times_by : He.DefD := ⟨("_law_times_by", none), "_law_times_by", "_law_times_by", defArgs s__law_times_by, defBody s__law_times_by, defScope s__law_times_by, [], []⟩
def d__law_mirror : He.DefD := ⟨("_law_mirror", none), "_law_mirror", "_law_mirror", defArgs s__law_mirror, defBody s__law_mirror, defScope s__law_mirror, [], []⟩
def d__law_is_great_right : He.DefD := ⟨("_law_is_great_right", none), "_law_is_great_right", "_law_is_great_right", defArgs s__law_is_great_right, defBody s__law_is_great_right, defScope s__law_is_great_right, [], []⟩
def d__law_are_two_right : He.DefD := ⟨("_law_are_two_right", none), "_law_are_two_right", "_law_are_two_right", defArgs s__law_are_two_right, defBody s__law_are_two_right, defScope s__law_are_two_right, [], []⟩
def d__law_is_mirror_right : He.DefD := ⟨("_law_is_mirror_right", none), "_law_is_mirror_right", "_law_is_mirror_right", defArgs s__law_is_mirror_right, defBody s__law_is_mirror_right, defScope s__law_is_mirror_right, [], []⟩
def d__law_is_row_right : He.DefD := ⟨("_law_is_row_right", none), "_law_is_row_right", "_law_is_row_right", defArgs s__law_is_row_right, defBody s__law_is_row_right, defScope s__law_is_row_right, [], []⟩
def d__law_is_enough_right : He.DefD := ⟨("_law_is_enough_right", none), "_law_is_enough_right", "_law_is_enough_right", defArgs s__law_is_enough_right, defBody s__law_is_enough_right, defScope s__law_is_enough_right, [], []⟩
def d__law_right : He.DefD := ⟨("_law_right", none), "_law_right", "_law_right", defArgs s__law_right, defBody s__law_right, defScope s__law_right, [], []⟩
def d_law : He.DefD := ⟨("law", none), "law", "law", defArgs s_law, defBody s_law, defScope s_law, [], []⟩
def fn : List He.DefD := [d_is_integer, d_is_between, d_is_ascending, d_common, d_reduced, d_less, d_is_fraction, d_check_lap, d_are_times, d_check_times, d_gaps_of, d_mean_of, d_wait_by, d_wait_at, d_mean_wait, d_worst_wait, d_told_lengths, d_how_long, d_half_wait, d_least_of, d_one_more, d_one_less, d_even_times, d_check_spread, d_spread, d_check_most, d_enough_for, d_check_both, d_put_later, d_change_by, d_change_wait, d_least_shift, d_best_shift, d_together, d_check_late, d_put_each, d_cost_of, d_best_lates, d_told_lates, d_at_worst, d_held, d__law_pot, d__law_take, d__law_of, d__law_some, d__law_cells, d__law_fraction, d__law_times, d__law_gaps, d__law_is_less, d__law_times_by, d__law_mirror, d__law_is_great_right, d__law_are_two_right, d__law_is_mirror_right, d__law_is_row_right, d__law_is_enough_right, d__law_right, d_law]
def fa : List He.Fa := [.glo "is_integer", .glo "is_between", .glo "is_ascending", .glo "common", .glo "reduced", .glo "less", .glo "is_fraction", .glo "check_lap", .glo "are_times", .glo "check_times", .glo "gaps_of", .glo "mean_of", .glo "wait_by", .glo "wait_at", .glo "mean_wait", .glo "worst_wait", .glo "told_lengths", .glo "how_long", .glo "half_wait", .glo "least_of", .glo "one_more", .glo "one_less", .glo "even_times", .glo "check_spread", .glo "spread", .glo "check_most", .glo "enough_for", .glo "check_both", .glo "put_later", .glo "change_by", .glo "change_wait", .glo "least_shift", .glo "best_shift", .glo "together", .glo "check_late", .glo "put_each", .glo "cost_of", .glo "best_lates", .glo "told_lates", .glo "at_worst", .glo "held", .glo "_law_pot", .glo "_law_take", .glo "_law_of", .glo "_law_some", .glo "_law_cells", .glo "_law_fraction", .glo "_law_times", .glo "_law_gaps", .glo "_law_is_less", .glo "_law_times_by", .glo "_law_mirror", .glo "_law_is_great_right", .glo "_law_are_two_right", .glo "_law_is_mirror_right", .glo "_law_is_row_right", .glo "_law_is_enough_right", .glo "_law_right", .glo "law", .free "isinstance", .free "int", .free "bool", .free "all", .free "zip", .free "abs", .free "tuple", .free "len", .free "sum", .free "min", .free "max", .free "range", .free "enumerate", .free "sorted", .free "set", .free "list", .free "dict", .int "MOST_LAP" 1440, .int "MOST_TIMES" 60, .int "MOST_LATE" 12, .glo "LineError", .glo "BadLap", .glo "BadMinute", .glo "BadNumber", .glo "BadTimes", .glo "TooMany", .glo "Alone", .glo "Full", .glo "BadPart"]
abbrev RR : PySem.W.OpenRow := PySem.W.OpenLaw.row PySem.Challenge.rw_howeverlate_k32_whole_lines_times_as_gre
abbrev hk : PySem.W.Hook := He.hookD 4 fa fn
def ob (s : PySem.W.SharedT) : He.AlD := He.obsDG 4 fa fn (HandSHeadRun.getT s)
theorem ob_eq (s : PySem.W.SharedT) : ob s = hk.obs s.abs := He.obsDG_eq (HandSHeadRun.getT_eq s)
def loose : List PySem.Str := (["LineError", "BadLap", "BadMinute", "BadNumber", "BadTimes", "TooMany", "Alone", "Full", "BadPart", "is_integer", "is_between", "is_ascending", "common", "reduced", "less", "is_fraction", "MOST_LAP", "MOST_TIMES", "check_lap", "are_times"] : List PySem.Str) ++ (["check_times", "gaps_of", "mean_of", "wait_by", "wait_at", "mean_wait", "worst_wait", "told_lengths", "how_long", "half_wait", "least_of", "one_more", "one_less", "even_times", "check_spread", "spread", "check_most", "enough_for", "check_both", "put_later"] : List PySem.Str) ++ (["change_by", "change_wait", "least_shift", "best_shift", "together", "MOST_LATE", "check_late", "put_each", "cost_of", "best_lates", "told_lates", "at_worst", "held", "_law_pot", "_law_take", "_law_of", "_law_some", "_law_cells", "_law_fraction", "_law_times"] : List PySem.Str) ++ (["_law_gaps", "_law_is_less", "_law_times_by", "_law_mirror", "_law_is_great_right", "_law_are_two_right", "_law_is_mirror_right", "_law_is_row_right", "_law_is_enough_right", "_law_right"] : List PySem.Str)
theorem run (w : World) : HandSHeadRun.RunEq RR (PySem.W.view RR.prog [76]) hk ob 8000 loose w := by
  intro os
  kernel_rfl
-- fa 0: .glo "is_integer"
-- fa 1: .glo "is_between"
-- fa 2: .glo "is_ascending"
-- fa 3: .glo "common"
-- fa 4: .glo "reduced"
-- fa 5: .glo "less"
-- fa 6: .glo "is_fraction"
-- fa 7: .glo "check_lap"
-- fa 8: .glo "are_times"
-- fa 9: .glo "check_times"
-- fa 10: .glo "gaps_of"
-- fa 11: .glo "mean_of"
-- fa 12: .glo "wait_by"
-- fa 13: .glo "wait_at"
-- fa 14: .glo "mean_wait"
-- fa 15: .glo "worst_wait"
-- fa 16: .glo "told_lengths"
-- fa 17: .glo "how_long"
-- fa 18: .glo "half_wait"
-- fa 19: .glo "least_of"
-- fa 20: .glo "one_more"
-- fa 21: .glo "one_less"
-- fa 22: .glo "even_times"
-- fa 23: .glo "check_spread"
-- fa 24: .glo "spread"
-- fa 25: .glo "check_most"
-- fa 26: .glo "enough_for"
-- fa 27: .glo "check_both"
-- fa 28: .glo "put_later"
-- fa 29: .glo "change_by"
-- fa 30: .glo "change_wait"
-- fa 31: .glo "least_shift"
-- fa 32: .glo "best_shift"
-- fa 33: .glo "together"
-- fa 34: .glo "check_late"
-- fa 35: .glo "put_each"
-- fa 36: .glo "cost_of"
-- fa 37: .glo "best_lates"
-- fa 38: .glo "told_lates"
-- fa 39: .glo "at_worst"
-- fa 40: .glo "held"
-- fa 41: .glo "_law_pot"
-- fa 42: .glo "_law_take"
-- fa 43: .glo "_law_of"
-- fa 44: .glo "_law_some"
-- fa 45: .glo "_law_cells"
-- fa 46: .glo "_law_fraction"
-- fa 47: .glo "_law_times"
-- fa 48: .glo "_law_gaps"
-- fa 49: .glo "_law_is_less"
-- fa 50: .glo "_law_times_by"
-- fa 51: .glo "_law_mirror"
-- fa 52: .glo "_law_is_great_right"
-- fa 53: .glo "_law_are_two_right"
-- fa 54: .glo "_law_is_mirror_right"
-- fa 55: .glo "_law_is_row_right"
-- fa 56: .glo "_law_is_enough_right"
-- fa 57: .glo "_law_right"
-- fa 58: .glo "law"
-- fa 59: .free "isinstance"
-- fa 60: .free "int"
-- fa 61: .free "bool"
-- fa 62: .free "all"
-- fa 63: .free "zip"
-- fa 64: .free "abs"
-- fa 65: .free "tuple"
-- fa 66: .free "len"
-- fa 67: .free "sum"
-- fa 68: .free "min"
-- fa 69: .free "max"
-- fa 70: .free "range"
-- fa 71: .free "enumerate"
-- fa 72: .free "sorted"
-- fa 73: .free "set"
-- fa 74: .free "list"
-- fa 75: .free "dict"
-- fa 76: .int "MOST_LAP" 1440
-- fa 77: .int "MOST_TIMES" 60
-- fa 78: .int "MOST_LATE" 12
-- fa 79: .glo "LineError"
-- fa 80: .glo "BadLap"
-- fa 81: .glo "BadMinute"
-- fa 82: .glo "BadNumber"
-- fa 83: .glo "BadTimes"
-- fa 84: .glo "TooMany"
-- fa 85: .glo "Alone"
-- fa 86: .glo "Full"
-- fa 87: .glo "BadPart"
end S18

namespace S18
open PySem PySem.Spec PyProof.Rows L2 AL
local macro_rules | `(tactic| walk_at "c1") => `(tactic| first | assumption | omega | (unfold CMul; omega) | (unfold CDiv; omega) | exact cmul_b _ _ | decide +kernel)
local macro_rules | `(tactic| walk_at "cc") => `(tactic| first | walk_at "c1" | (refine And.intro ?_ ?_; walk_at "c1"; walk_at "cc"))
local macro_rules | `(tactic| walk_at "e0") => `(tactic| first
  | ((with_reducible refine ev_vd (d := ?d) ?e ?p); (case e => rfl))
  | ((with_reducible refine ev_vv (v := ?d) ?e ?p); (case e => rfl))
  | ((with_reducible refine ev_var (s := ?d) ?e ?n ?p); (case e => rfl); (case n => assumption))
  | with_reducible refine ev_int ?_
  | with_reducible refine ev_bl ?_
  | with_reducible refine ev_non ?_
  | with_reducible refine ev_str ?_
  | with_reducible refine ev_c ?_
  | with_reducible refine ea_nil ?_
  | with_reducible refine ea_cons ?_
  | with_reducible refine ev_tup ?_
  | with_reducible refine ev_lst ?_
  | with_reducible refine ev_add ?_
  | with_reducible refine ev_sub ?_
  | with_reducible refine ev_mul ?_
  | with_reducible refine ev_mod ?_
  | with_reducible refine ev_fdiv ?_
  | with_reducible refine ev_lt ?_
  | with_reducible refine ev_le ?_
  | with_reducible refine ev_gt ?_
  | with_reducible refine ev_ge ?_
  | with_reducible refine ev_neg ?_
  | with_reducible refine ev_pow ?_
  | with_reducible refine ev_neD ?_
  | with_reducible refine ev_eqD ?_
  | with_reducible refine ev_isN ?_
  | with_reducible refine ev_notN ?_
  | with_reducible refine ev_isB ?_
  | with_reducible refine ev_notB ?_
  | with_reducible refine ev_ix ?_
  | with_reducible refine ev_in ?_
  | with_reducible refine ev_sl ?_
  | with_reducible refine ev_sortedSet ?_
  | with_reducible refine ev_dictKeys ?_
  | with_reducible refine ev_sortedRv ?_
  | with_reducible refine ev_step2 ?_
  | with_reducible refine ev_listRg ?_
  | with_reducible refine ev_catT ?_
  | with_reducible refine gw_setL ?_
  | with_reducible refine ev_ltD ?_
  | with_reducible refine ev_dnew ?_
  | with_reducible refine ev_dispI ?_
  | with_reducible refine st_dput ?_
  | with_reducible refine st_lockSet ?_
  | with_reducible refine ev_cb ?_
  | with_reducible refine ev_call ?_
  | with_reducible refine rv_of ?_
  | with_reducible refine ev_and ?_
  | with_reducible refine ev_or ?_
  | with_reducible refine ev_not ?_
  | with_reducible refine ev_chain ?_
  | with_reducible refine ea_star ?_
  | with_reducible refine eo_none ?_
  | with_reducible refine eo_some ?_
  | with_reducible refine et_test ?_
  | with_reducible refine et_b ?_
  | with_reducible refine et_not ?_
  | with_reducible refine et_and ?_
  | with_reducible refine et_or ?_
  | with_reducible refine et_yes ?_
  | with_reducible refine st_seq ?_
  | with_reducible refine st_ret ?_
  | with_reducible refine st_set ?_
  | with_reducible refine st_par ?_
  | with_reducible refine st_asg ?_
  | with_reducible refine st_drop ?_
  | with_reducible refine st_next ?_
  | with_reducible refine st_break ?_
  | with_reducible refine st_cont ?_
  | with_reducible refine gw_name ?_
  | with_reducible refine gw_tup rfl ?_
  | refine gws_cons ?_
  | refine gws_nil ?_
  | with_reducible refine ei_seq ?_
  | with_reducible refine ei_zip ?_
  | with_reducible refine ei_enum ?_
  | with_reducible refine ei_rng1 ?_
  | with_reducible refine ei_rng2 ?_
  | refine ⟨_, rfl, ?_⟩
  | refine ⟨rfl, ?_⟩
  | refine ⟨_, _, rfl, ?_⟩
  | refine ⟨_, _, rfl, rfl, ?_⟩
  | refine ⟨_, _, _, rfl, ?_⟩
  | refine ⟨_, _, _, _, rfl, ?_⟩
  | refine ⟨_, _, rfl, SeqD.t, ?_⟩
  | refine ⟨_, _, rfl, SeqD.l, ?_⟩
  | refine ⟨_, _, rfl, LstD.l, ?_⟩
  | refine ⟨_, _, rfl, .inl LstD.l, ?_⟩
  | refine ⟨_, SeqD.t, ?_⟩
  | refine ⟨_, SeqD.l, ?_⟩
  | refine ⟨SeqD.t, ?_⟩
  | refine ⟨SeqD.l, ?_⟩
  | refine ⟨LstD.l, ?_⟩
  | refine ⟨_, .inl rfl, ?_⟩
  | refine ⟨_, .inr rfl, ?_⟩
  | refine And.intro (shaped_dI _) ?_
  | refine And.intro (by walk_at "cc") ?_
  | refine ⟨_, _, _, SeqD.t, rfl, rfl, ?_⟩
  | refine ⟨_, _, _, SeqD.l, rfl, rfl, ?_⟩
  | refine ⟨[], rfl, Nat.zero_le _, ?_⟩
  | refine ⟨[_], rfl, Nat.le_of_ble_eq_true rfl, ?_⟩
  | refine ⟨[_, _], rfl, Nat.le_of_ble_eq_true rfl, ?_⟩
  | refine ⟨[_, _, _], rfl, Nat.le_of_ble_eq_true rfl, ?_⟩
  | refine ⟨fun _ => ?_, fun h => absurd h (by decide)⟩
  | refine ⟨fun h => absurd h (by decide), fun _ => ?_⟩
  | refine ⟨fun _ => ?_, fun h => absurd (of_decide_eq_false h) (by omega)⟩
  | refine ⟨fun h => absurd (of_decide_eq_true h) (by omega), fun _ => ?_⟩
  | refine ⟨fun _ => ?_, fun h => nomatch (show true = false from h)⟩
  | refine ⟨fun h => nomatch (show false = true from h), fun _ => ?_⟩
  | refine ⟨fun _ => ?_, fun h => nomatch (show false = true from h)⟩
  | refine ⟨fun h => nomatch (show true = false from h), fun _ => ?_⟩
  | refine ⟨fun _ => ?_, fun h => absurd h (by first | (simp [eqv_int]; done) | (simp [eqv_int]; omega))⟩
  | refine ⟨fun h => absurd h (by first | (simp [eqv_int]; done) | (simp [eqv_int]; omega)), fun _ => ?_⟩
  | refine ⟨_, .inl ⟨rfl, ?_⟩⟩
  | refine ⟨_, .inr ⟨rfl, ?_⟩⟩
  | refine ⟨_, _, _, SeqD.t, rfl, at_dI (by omega) (by omega), ?_⟩
  | refine ⟨_, _, _, SeqD.l, rfl, at_dI (by omega) (by omega), ?_⟩
  | refine ⟨_, _, _, _, rfl, .inl rfl, .inl rfl, ?_⟩
  | refine ⟨_, _, _, _, rfl, .inl rfl, .inr rfl, ?_⟩
  | refine ⟨_, _, _, _, rfl, .inr rfl, .inl rfl, ?_⟩
  | refine ⟨_, _, _, _, rfl, .inr rfl, .inr rfl, ?_⟩
  | refine ⟨_, _, rfl, .inl rfl, ?_⟩
  | refine ⟨_, _, rfl, .inr rfl, ?_⟩
  | with_reducible exact rfl
  | refine ⟨_, _, _, SeqD.o (i := 0) rfl, rfl, rfl, ?_⟩
  | refine ⟨0, _, _, _, _, rfl, rfl, rfl, rfl, ?_⟩
  | refine .inl ⟨_, rfl, ?_⟩
  | refine .inr ⟨_, rfl, ?_⟩
  | fail "no step")
local macro_rules | `(tactic| walk_at "e1") => `(tactic| first | walk_at "e0" | with_reducible refine st_if ?_ | with_reducible refine ev_ite ?_)
local macro_rules | `(tactic| walk_at "en") => `(tactic| repeat' walk_at "e0")
local macro_rules | `(tactic| walk_at "ev") => `(tactic| repeat' walk_at "e1")
local macro_rules | `(tactic| walk_at "eo") => `(tactic| repeat' first | with_reducible refine ev_lstO ?_ | walk_at "e1")
section
open PySem PySem.Spec PyProof.Rows L2 AL
structure Bas (mg : Str → Option Value) : Prop where
  m_isinstance : mg "isinstance" = none
  m_int : mg "int" = none
  m_bool : mg "bool" = none
  m_all : mg "all" = none
  m_zip : mg "zip" = none
  m_abs : mg "abs" = none
  m_tuple : mg "tuple" = none
  m_len : mg "len" = none
  m_sum : mg "sum" = none
  m_min : mg "min" = none
  m_max : mg "max" = none
  m_range : mg "range" = none
  m_enumerate : mg "enumerate" = none
  m_sorted : mg "sorted" = none
  m_set : mg "set" = none
  m_list : mg "list" = none
  m_dict : mg "dict" = none
  c_MOST_LAP : ∃ t, mg "MOST_LAP" = some (.int 1440 t)
  c_MOST_TIMES : ∃ t, mg "MOST_TIMES" = some (.int 60 t)
  c_MOST_LATE : ∃ t, mg "MOST_LATE" = some (.int 12 t)
section
variable {P : Program} {w : World} {K : PySem.W.Frag} {mg : Str → Option Value} {base : Heap}
abbrev S_is_integer : DS := fun ss O P => ∃ a : Int, ss = [.d (.int a)] ∧ P (.d (.bool true)) O
theorem sc_is_integer : FnScope ["value"] ["value"] (defScope s_is_integer) := ⟨rfl, rfl, rfl, by decide +kernel, rfl, by decide +kernel, by decide +kernel⟩
theorem C_is_integer (B : Bas mg) (F : Fn K mg "is_integer" s_is_integer ["value"])  : Cal P w K mg base "is_integer" S_is_integer 1 := by
  refine Cal.mkF F sc_is_integer (by rintro ss O P ⟨a, rfl, _⟩; rfl) fun f cdv A outer s H E hr => ?_
  have hu := hr.units
  refine ⟨_, (pss_one (ps_ret (pe_and (pe_callB (cl_isi "int") (by rfl) B.m_isinstance (by decide +kernel) (pa_cons (pv 0) (pa_cons (pe_bltn (v := .ty "int") (by rfl) B.m_int (by decide +kernel) rfl) pa_nil))) (pe_one (pe_not (pe_callB (cl_isi "bool") (by rfl) B.m_isinstance (by decide +kernel) (pa_cons (pv 0) (pa_cons (pe_bltn (v := .ty "bool") (by rfl) B.m_bool (by decide +kernel) rfl) pa_nil)))))))), ?_⟩
  dsimp only [cxOf, Cx.nox]
  rintro ss O P ⟨a, rfl, hP⟩
  change StW _ _ _ [_] _
  walk_at "ev"
  exact hP
abbrev S_is_between : DS := fun ss O P => ∃ a b c : Int, ss = [.d (.int a), .d (.int b), .d (.int c)] ∧ P (.d (.bool (decide (b ≤ a) && decide (a ≤ c)))) O
theorem sc_is_between : FnScope ["value", "least", "most"] ["value", "least", "most"] (defScope s_is_between) := ⟨rfl, rfl, rfl, by decide +kernel, rfl, by decide +kernel, by decide +kernel⟩
theorem C_is_between (B : Bas mg) (F : Fn K mg "is_between" s_is_between ["value", "least", "most"]) (C_is_integer : Cal P w K mg base "is_integer" S_is_integer 1) : Cal P w K mg base "is_between" S_is_between 2 := by
  refine Cal.mkF F sc_is_between (by rintro ss O P ⟨a, b, c, rfl, _⟩; rfl) fun f cdv A outer s H E hr => ?_
  have hu := hr.units
  refine ⟨_, (pss_one (ps_ret (pe_and (pe_cal C_is_integer (hr.mono (by decide)) (by rfl) (pa_cons (pv 0) pa_nil)) (pe_one (pe_chain op_le op_le (pv 1) (pv 0) (pv 2)))))), ?_⟩
  dsimp only [cxOf, Cx.nox]
  rintro ss O P ⟨a, b, c, rfl, hP⟩
  change StW _ _ _ [_, _, _] _
  walk_at "ev"
  refine ⟨fun h => ?_, fun h => ?_⟩
  · walk_at "ev"
    rw [h] at hP
    exact hP
  · rw [h] at hP
    exact hP
abbrev S_common : DS := fun ss O P => ∃ a b : Int, ss = [.d (.int a), .d (.int b)] ∧ 0 ≤ b ∧ P (.d (.int (Int.gcd a b))) O
theorem sc_common : FnScope ["one", "other"] ["one", "other"] (defScope s_common) := ⟨rfl, rfl, rfl, by decide +kernel, rfl, by decide +kernel, by decide +kernel⟩
theorem C_common (B : Bas mg) (F : Fn K mg "common" s_common ["one", "other"])  : Cal P w K mg base "common" S_common 1 := by
  refine Cal.mkF F sc_common (by rintro ss O P ⟨a, b, rfl, _⟩; rfl) fun f cdv A outer s H E hr => ?_
  have hu := hr.units
  refine ⟨_, (pss_cons (ps_while PassesOwn.never (pt_cmpR (op_neD hu) (pv 1) pe_int (nomark _)) (pss_one (ps_par (i := 0) (j := 1) rfl sc_common.nd rfl rfl (by decide) rfl rfl (pa_cons (pv 1) (pa_cons (pe_op op_mod (pv 0) (pv 1)) pa_nil)) (by rfl))))
 (pss_one (ps_ret (pe_callB cl_abs (by rfl) B.m_abs (by decide +kernel) (pa_cons (pv 0) pa_nil))))), ?_⟩
  dsimp only [cxOf, Cx.nox]
  rintro ss O P ⟨a, b, rfl, hb, hP⟩
  change StW _ _ _ [_, _] _
  refine st_seq ?_
  refine st_while (fun ρ O' => ∃ c d : Int, ρ = [.d (.int c), .d (.int d)] ∧ O' = O ∧ 0 ≤ d ∧ Int.gcd c d = Int.gcd a b) (fun ρ _ => match ρ with | [_, .d (.int d)] => d.toNat | _ => 0) ⟨a, b, rfl, rfl, hb, rfl⟩ ?_
  rintro ρ' O' ⟨c, d, rfl, rfl, hd, hg⟩
  walk_at "ev"
  rw [neqv_int]
  refine ⟨fun h => ?_, fun h => ?_⟩
  · have h := of_decide_eq_true h
    walk_at "ev"
    have h1 := Int.emod_nonneg c h
    have h2 := Int.emod_lt_of_pos c (show 0 < d by omega)
    exact ⟨⟨_, _, rfl, rfl, h1, by rw [natAbs_gcd, hg]⟩, by show (c % d).toNat < d.toNat; omega⟩
  · have h := of_decide_eq_false h
    have e : d = 0 := by omega
    subst e
    walk_at "ev"
    rw [Int.gcd_zero_right] at hg
    rw [hg]
    exact hP
abbrev S_reduced : DS := fun ss O P => ∃ a b : Int, ss = [.d (.int a), .d (.int b)] ∧ (0 < b ∧ b < 2 ^ 29) ∧ P (.d (prD (fr a b))) O
theorem sc_reduced : FnScope ["top", "low", "factor"] ["top", "low"] (defScope s_reduced) := ⟨rfl, rfl, rfl, by decide +kernel, rfl, by decide +kernel, by decide +kernel⟩
theorem C_reduced (B : Bas mg) (F : Fn K mg "reduced" s_reduced ["top", "low"]) (C_common : Cal P w K mg base "common" S_common 1) : Cal P w K mg base "reduced" S_reduced 2 := by
  refine Cal.mkF F sc_reduced (by rintro ss O P ⟨a, b, rfl, _⟩; rfl) fun f cdv A outer s H E hr => ?_
  have hu := hr.units
  refine ⟨_, (pss_cons (ps_set (i := 2) sc_reduced.nd rfl (.inl rfl) (pe_ifExp (pt_cmpR op_gt (pv 1) pe_int (nomark _)) (pe_cal C_common (hr.mono (by decide)) (by rfl) (pa_cons (pv 0) (pa_cons (pv 1) pa_nil))) (pe_op op_sub pe_int (pe_cal C_common (hr.mono (by decide)) (by rfl) (pa_cons (pv 0) (pa_cons (pv 1) pa_nil))))))
 (pss_one (ps_ret (pe_tup (pa_cons (pe_op op_fdiv (pv 0) (pv 2)) (pa_cons (pe_op op_fdiv (pv 1) (pv 2)) pa_nil)))))), ?_⟩
  dsimp only [cxOf, Cx.nox]
  rintro ss O P ⟨a, b, rfl, ⟨hb, hb2⟩, hP⟩
  change StW _ _ _ [_, _, .u] _
  have h1 := gcd_pos (a := a) hb
  have h2 := gcd_le (a := a) hb
  walk_at "ev"
  exact hP
abbrev S_less : DS := fun ss O P => ∃ p q : Int × Int, ss = [.d (prD p), .d (prD q)] ∧ (CMul p.1 q.2 ∧ CMul q.1 p.2) ∧ P (.d (.bool (decide (p.1 * q.2 < q.1 * p.2)))) O
theorem sc_less : FnScope ["one", "other"] ["one", "other"] (defScope s_less) := ⟨rfl, rfl, rfl, by decide +kernel, rfl, by decide +kernel, by decide +kernel⟩
theorem C_less (B : Bas mg) (F : Fn K mg "less" s_less ["one", "other"])  : Cal P w K mg base "less" S_less 1 := by
  refine Cal.mkF F sc_less (by rintro ss O P ⟨p, q, rfl, _⟩; rfl) fun f cdv A outer s H E hr => ?_
  have hu := hr.units
  refine ⟨_, (pss_one (ps_ret (pe_cmpR op_lt (pe_op op_mul (pe_ix ix_seq (pv 0) pe_int (fun _ _ => rfl)) (pe_ix ix_seq (pv 1) pe_int (fun _ _ => rfl))) (pe_op op_mul (pe_ix ix_seq (pv 1) pe_int (fun _ _ => rfl)) (pe_ix ix_seq (pv 0) pe_int (fun _ _ => rfl))) (nomark _)))), ?_⟩
  dsimp only [cxOf, Cx.nox]
  rintro ss O P ⟨p, q, rfl, ⟨h1, h2⟩, hP⟩
  change StW _ _ _ [_, _] _
  unfold CMul at h1 h2
  walk_at "ev"
  exact hP
abbrev S_is_fraction : DS := fun ss O P => ∃ a b : Int, ss = [.d (prD (a, b))] ∧ (0 < b ∧ Int.gcd a b = 1) ∧ P (.d (.bool true)) O
theorem sc_is_fraction : FnScope ["value"] ["value"] (defScope s_is_fraction) := ⟨rfl, rfl, rfl, by decide +kernel, rfl, by decide +kernel, by decide +kernel⟩
theorem C_is_fraction (B : Bas mg) (F : Fn K mg "is_fraction" s_is_fraction ["value"]) (C_common : Cal P w K mg base "common" S_common 1) (C_is_integer : Cal P w K mg base "is_integer" S_is_integer 1) : Cal P w K mg base "is_fraction" S_is_fraction 2 := by
  refine Cal.mkF F sc_is_fraction (by rintro ss O P ⟨a, b, rfl, _⟩; rfl) fun f cdv A outer s H E hr => ?_
  have hu := hr.units
  refine ⟨_, (pss_cons (ps_if (PW.pt (pw_or (pt_not (pt_val (pe_callB (cl_isi "tuple") (by rfl) B.m_isinstance (by decide +kernel) (pa_cons (pv 0) (pa_cons (pe_bltn (v := .ty "tuple") (by rfl) B.m_tuple (by decide +kernel) rfl) pa_nil))))) (pw_or (pt_cmpR (op_neD hu) (pe_callB cl_len (by rfl) B.m_len (by decide +kernel) (pa_cons (pv 0) pa_nil)) pe_int (nomark _)) (pw_or (pt_not (pt_val (pe_cal C_is_integer (hr.mono (by decide)) (by rfl) (pa_cons (pe_ix ix_seq (pv 0) pe_int (fun _ _ => rfl)) pa_nil)))) (pw_or1 (pt_not (pt_val (pe_cal C_is_integer (hr.mono (by decide)) (by rfl) (pa_cons (pe_ix ix_seq (pv 0) pe_int (fun _ _ => rfl)) pa_nil))))))))) (pss_one (ps_ret pe_bl)) pss_nil)
 (pss_one (ps_ret (pe_and (pe_cmpR op_gt (pe_ix ix_seq (pv 0) pe_int (fun _ _ => rfl)) pe_int (nomark _)) (pe_one (pe_cmpR (op_eqD hu) (pe_cal C_common (hr.mono (by decide)) (by rfl) (pa_cons (pe_ix ix_seq (pv 0) pe_int (fun _ _ => rfl)) (pa_cons (pe_ix ix_seq (pv 0) pe_int (fun _ _ => rfl)) pa_nil))) pe_int (nomark _))))))), ?_⟩
  dsimp only [cxOf, Cx.nox]
  rintro ss O P ⟨a, b, rfl, ⟨hb, hg⟩, hP⟩
  change StW _ _ _ [_] _
  walk_at "ev"
  rw [hg]
  exact hP
abbrev S_is_ascending : DS := fun ss O P => ∃ ts : List Int, ss = [.d (.tuple (dI ts))] ∧ (ts.length ≤ 2000 ∧ ts.Pairwise (· < ·)) ∧ P (.d (.bool true)) O
theorem sc_is_ascending : FnScope ["values", "one", "other"] ["values"] (defScope s_is_ascending) := ⟨rfl, rfl, rfl, by decide +kernel, rfl, by decide +kernel, by decide +kernel⟩
theorem C_is_ascending (B : Bas mg) (F : Fn K mg "is_ascending" s_is_ascending ["values"])  : Cal P w K mg base "is_ascending" S_is_ascending 1 := by
  refine Cal.mkF F sc_is_ascending (by rintro ss O P ⟨ts, rfl, _⟩; rfl) fun f cdv A outer s H E hr => ?_
  have hu := hr.units
  refine ⟨_, (pss_one (ps_ret (pe_callB (cl_all rfl) (by rfl) B.m_all (by decide +kernel) (pa_cons (pe_lc (own := [("one", 1), ("other", 2)]) (g := (gTup K 2 (gCons (gName 1) (gCons (gName 2) gNil)))) (tt := tYes) (te := (tOp (rI0 fun i j => .bl (decide (i < j))) (tVar 1) (tVar 2))) rfl sc_is_ascending.nd (pi_zipU (by rfl) B.m_zip (pa_cons (pv 0) (pa_cons (pe_slice sl_any (pv 0) (po_some pe_int) po_none) pa_nil))) (blkOk_by (own := [("one", 1), ("other", 2)]) (N := ["values", "one", "other"]) (by first | decide +kernel | kernel_rfl)) (fun _ _ _ _ _ => (pg_tup rfl (pgs_cons (pg_name (i := 1) sc_is_ascending.nd rfl (.inl rfl)) (pgs_cons (pg_name (i := 2) sc_is_ascending.nd rfl (.inl rfl)) pgs_nil)))) (fun _ _ _ _ _ => pts_nil) (fun _ _ _ _ _ => (pe_cmpR op_lt (pv 1) (pv 2) (nomark _)))) pa_nil)))), ?_⟩
  dsimp only [cxOf, Cx.nox]
  rintro ss O P ⟨ts, rfl, ⟨hl, ha⟩, hP⟩
  change StW _ _ _ [_, .u, .u] _
  walk_at "ev"
  refine lc_map (xs := ts.zip (ts.drop 1)) (f := fun p => .tuple [.int p.1, .int p.2]) (fun p => .bool (decide (p.1 < p.2))) (go_tup (gso_cons gm_name (go_name (by decide)) (gso_cons gm_name (go_name (by decide)) gso_nil))) ?_
  walk_at "ev"
  rw [cut_from1, zip_dI]
  refine ⟨rfl, rfl, ?_, fun x hx => ?_, ?_⟩
  · rw [List.length_zip]
    have : (2000 : Nat) ≤ sizeLine := Nat.le_of_ble_eq_true rfl
    omega
  · walk_at "ev"
  · refine ea_nil (rv_of ⟨_, (ts.zip (ts.drop 1)).map (fun p => decide (p.1 < p.2)), rfl, .inl (by rw [List.map_map]; rfl), ?_⟩)
    have e : ((ts.zip (ts.drop 1)).map (fun p => decide (p.1 < p.2))).all id = true := by
      rw [List.all_map]
      refine List.all_eq_true.mpr fun p hp => decide_eq_true ?_
      obtain ⟨i, hi, e⟩ := List.getElem_of_mem hp
      rw [List.length_zip, List.length_drop] at hi
      rw [List.getElem_zip] at e
      rw [← e]
      simp only [List.getElem_drop]
      exact List.pairwise_iff_getElem.mp ha i (1 + i) (by omega) (by omega) (by omega)
    rw [e]
    exact hP
abbrev S_check_lap : DS := fun ss O P => ∃ a : Int, ss = [.d (.int a)] ∧ (1 ≤ a ∧ a ≤ 1440) ∧ P (.d .none) O
theorem sc_check_lap : FnScope ["lap"] ["lap"] (defScope s_check_lap) := ⟨rfl, rfl, rfl, by decide +kernel, rfl, by decide +kernel, by decide +kernel⟩
theorem C_check_lap (B : Bas mg) (F : Fn K mg "check_lap" s_check_lap ["lap"]) (C_is_between : Cal P w K mg base "is_between" S_is_between 2) : Cal P w K mg base "check_lap" S_check_lap 3 := by
  refine Cal.mkF F sc_check_lap (by rintro ss O P ⟨a, rfl, _⟩; rfl) fun f cdv A outer s H E hr => ?_
  have hu := hr.units
  refine ⟨_, (pss_one (ps_if (pt_not (pt_val (pe_cal C_is_between (hr.mono (by decide)) (by rfl) (pa_cons (pv 0) (pa_cons pe_int (pa_cons (pe_gint (by rfl) B.c_MOST_LAP) pa_nil)))))) pss_never pss_nil)), ?_⟩
  dsimp only [cxOf, Cx.nox]
  rintro ss O P ⟨a, rfl, ⟨h1, h2⟩, hP⟩
  change StW _ _ _ [_] _
  walk_at "ev"
  exact hP
abbrev S_are_times : DS := fun ss O P => ∃ (lap : Int) (ts : List Int), ss = [.d (.int lap), .d (.tuple (dI ts))] ∧ Good lap ts ∧ P (.d (.bool true)) O
theorem sc_are_times : FnScope ["lap", "value", "time"] ["lap", "value"] (defScope s_are_times) := ⟨rfl, rfl, rfl, by decide +kernel, rfl, by decide +kernel, by decide +kernel⟩
theorem C_are_times (B : Bas mg) (F : Fn K mg "are_times" s_are_times ["lap", "value"]) (C_is_ascending : Cal P w K mg base "is_ascending" S_is_ascending 1) (C_is_between : Cal P w K mg base "is_between" S_is_between 2) : Cal P w K mg base "are_times" S_are_times 3 := by
  refine Cal.mkF F sc_are_times (by rintro ss O P ⟨lap, ts, rfl, _⟩; rfl) fun f cdv A outer s H E hr => ?_
  have hu := hr.units
  refine ⟨_, (pss_cons (ps_if (PW.pt (pw_or (pt_not (pt_val (pe_callB (cl_isi "tuple") (by rfl) B.m_isinstance (by decide +kernel) (pa_cons (pv 1) (pa_cons (pe_bltn (v := .ty "tuple") (by rfl) B.m_tuple (by decide +kernel) rfl) pa_nil))))) (pw_or1 (pt_not (pt_chain op_lt op_le pe_int (pe_callB cl_len (by rfl) B.m_len (by decide +kernel) (pa_cons (pv 1) pa_nil)) (pe_gint (by rfl) B.c_MOST_TIMES)))))) (pss_one (ps_ret pe_bl)) pss_nil)
 (pss_one (ps_ret (pe_and (pe_callB (cl_all rfl) (by rfl) B.m_all (by decide +kernel) (pa_cons (pe_lc (own := [("time", 2)]) (g := (gName 2)) (tt := tYes) (te := (tCall (spA K S_is_between) [] E0 (tCons (tVar 2) (tCons (tC (.int 0)) (tCons (tOp (rI0 fun i j => .int (i - j)) (tVar 0) (tC (.int 1))) tNil))))) rfl sc_are_times.nd (pi_seq (pv 1)) (blkOk_by (own := [("time", 2)]) (N := ["lap", "value", "time"]) (by first | decide +kernel | kernel_rfl)) (fun _ _ _ _ _ => (pg_name (i := 2) sc_are_times.nd rfl (.inl rfl))) (fun _ _ _ _ _ => pts_nil) (fun _ _ _ _ _ => (pe_cal C_is_between (hr.mono (by decide)) (by rfl) (pa_cons (pv 2) (pa_cons pe_int (pa_cons (pe_op op_sub (pv 0) pe_int) pa_nil)))))) pa_nil)) (pe_one (pe_cal C_is_ascending (hr.mono (by decide)) (by rfl) (pa_cons (pv 1) pa_nil))))))), ?_⟩
  dsimp only [cxOf, Cx.nox]
  rintro ss O P ⟨lap, ts, rfl, hg, hP⟩
  change StW _ _ _ [_, _, .u] _
  have h1 := hg.l1
  have h2 := hg.l2
  have h3 := hg.ne
  have h4 := hg.le
  have h5 := dI_len ts
  walk_at "ev"
  refine lc_map (xs := ts) (f := .int) (fun _ => .bool true) (go_name (by decide)) ?_
  walk_at "ev"
  refine ⟨?_, fun x hx => ?_, ?_⟩
  · have : (2000 : Nat) ≤ sizeLine := Nat.le_of_ble_eq_true rfl
    omega
  · have h6 := hg.rg x hx
    walk_at "ev"
    have e : (decide (0 ≤ x) && decide (x ≤ lap - 1)) = true := by simp; omega
    rw [e]
    exact ⟨rfl, rfl⟩
  · refine ea_nil (rv_of ⟨_, ts.map (fun _ => true), rfl, .inl (by rw [List.map_map]; rfl), ?_⟩)
    have e : (ts.map (fun _ => true)).all id = true := by rw [List.all_map]; exact List.all_eq_true.mpr fun _ _ => rfl
    rw [e]
    walk_at "ev"
    exact ⟨⟨by omega, hg.asc⟩, hP⟩
abbrev S_check_times : DS := fun ss O P => ∃ (lap : Int) (ts : List Int), ss = [.d (.int lap), .d (.tuple (dI ts))] ∧ Good lap ts ∧ P (.d .none) O
theorem sc_check_times : FnScope ["lap", "times"] ["lap", "times"] (defScope s_check_times) := ⟨rfl, rfl, rfl, by decide +kernel, rfl, by decide +kernel, by decide +kernel⟩
theorem C_check_times (B : Bas mg) (F : Fn K mg "check_times" s_check_times ["lap", "times"]) (C_are_times : Cal P w K mg base "are_times" S_are_times 3) (C_check_lap : Cal P w K mg base "check_lap" S_check_lap 3) : Cal P w K mg base "check_times" S_check_times 4 := by
  refine Cal.mkF F sc_check_times (by rintro ss O P ⟨lap, ts, rfl, _⟩; rfl) fun f cdv A outer s H E hr => ?_
  have hu := hr.units
  refine ⟨_, (pss_cons (ps_expr (pe_cal C_check_lap (hr.mono (by decide)) (by rfl) (pa_cons (pv 0) pa_nil)))
 (pss_one (ps_if (pt_not (pt_val (pe_cal C_are_times (hr.mono (by decide)) (by rfl) (pa_cons (pv 0) (pa_cons (pv 1) pa_nil))))) pss_never pss_nil))), ?_⟩
  dsimp only [cxOf, Cx.nox]
  rintro ss O P ⟨lap, ts, rfl, hg, hP⟩
  change StW _ _ _ [_, _] _
  have h1 := hg.l1
  have h2 := hg.l2
  walk_at "ev"
  exact hP
abbrev S_gaps_of : DS := fun ss O P => ∃ (lap : Int) (s : Sl) (ts : List Int), ss = [.d (.int lap), s] ∧ (SeqP s (dI ts) ∧ 0 < lap ∧ 0 < ts.length ∧ ts.length ≤ 2000) ∧ P (.d (.list (dI (gaps lap ts)))) O
theorem sc_gaps_of : FnScope ["lap", "times", "here", "there"] ["lap", "times"] (defScope s_gaps_of) := ⟨rfl, rfl, rfl, by decide +kernel, rfl, by decide +kernel, by decide +kernel⟩
theorem C_gaps_of (B : Bas mg) (F : Fn K mg "gaps_of" s_gaps_of ["lap", "times"])  : Cal P w K mg base "gaps_of" S_gaps_of 1 := by
  refine Cal.mkF F sc_gaps_of (by rintro ss O P ⟨lap, s1, ts, rfl, _⟩; rfl) fun f cdv A outer s H E hr => ?_
  have hu := hr.units
  refine ⟨_, (pss_one (ps_ret (pe_lc (own := [("here", 2), ("there", 3)]) (g := (gTup K 2 (gCons (gName 2) (gCons (gName 3) gNil)))) (tt := tYes) (te := (tIf (tTest (tOp (rI0 fun i j => .bl (decide (i > j))) (tCB (rOf K sLen) (tCons (tVar 1) tNil)) (tC (.int 1)))) (tOp (rI (fun _ j => 0 < j) fun i j => .int (i % j)) (tOp (rI0 fun i j => .int (i - j)) (tVar 3) (tVar 2)) (tVar 0)) (tVar 0))) rfl sc_gaps_of.nd (pi_zipU (by rfl) B.m_zip (pa_cons (pv 1) (pa_cons (pe_lst (StX.pa_star (pe_slice sl_any (pv 1) (po_some pe_int) po_none) (pa_cons (pe_ix ix_seq (pv 1) pe_int (fun _ _ => rfl)) pa_nil))) pa_nil))) (blkOk_by (own := [("here", 2), ("there", 3)]) (N := ["lap", "times", "here", "there"]) (by first | decide +kernel | kernel_rfl)) (fun _ _ _ _ _ => (pg_tup rfl (pgs_cons (pg_name (i := 2) sc_gaps_of.nd rfl (.inl rfl)) (pgs_cons (pg_name (i := 3) sc_gaps_of.nd rfl (.inl rfl)) pgs_nil)))) (fun _ _ _ _ _ => pts_nil) (fun _ _ _ _ _ => (pe_ifExp (pt_cmpR op_gt (pe_callB cl_len (by rfl) B.m_len (by decide +kernel) (pa_cons (pv 1) pa_nil)) pe_int (nomark _)) (pe_op op_mod (pe_op op_sub (pv 3) (pv 2)) (pv 0)) (pv 0)))))), ?_⟩
  dsimp only [cxOf, Cx.nox]
  rintro ss O P ⟨lap, s1, ts, rfl, ⟨hs, hl, h0, h1⟩, hP⟩
  change StW _ _ _ [_, _, .u, .u] _
  have hz : (4000 : Nat) ≤ sizeLine := Nat.le_of_ble_eq_true rfl
  have h5 := dI_len ts
  walk_at "ev"
  refine lc_map (xs := ts.zip (ts.drop 1 ++ [ts.getD 0 0])) (f := fun p => .tuple [.int p.1, .int p.2]) (fun p => .int (if 1 < ts.length then (p.2 - p.1) % lap else lap)) (go_tup (gso_cons gm_name (go_name (by decide)) (gso_cons gm_name (go_name (by decide)) gso_nil))) ?_
  rcases hs with rfl | rfl
  all_goals
    walk_at "ev"
    rw [cut_from1]
    refine ⟨dI (ts.drop 1 ++ [ts.getD 0 0]), by rw [← dI_snoc, List.map_append]; rfl, by rw [dI_len, List.length_append, List.length_drop]; simp; omega, ?_⟩
    walk_at "ev"
    rw [zip_dI]
    refine ⟨rfl, rfl, ?_, fun x hx => ?_, ?_⟩
    · rw [List.length_zip, List.length_append, List.length_drop]
      omega
    · walk_at "ev"
      refine ⟨fun h => ?_, fun h => ?_⟩
      · have h := of_decide_eq_true h
        walk_at "ev"
        rw [if_pos (by omega)]
        walk_at "ev"
      · have h := of_decide_eq_false h
        walk_at "ev"
        rw [if_neg (by omega)]
        walk_at "ev"
    · rw [show gaps lap ts = _ from rfl] at hP
      unfold gaps dI at hP
      rw [List.map_map] at hP
      exact hP
end
end
section
open PySem PySem.Spec PyProof.Rows L2 AL
section
variable {P : Program} {w : World} {K : PySem.W.Frag} {mg : Str → Option Value} {base : Heap}
abbrev S_mean_of : DS := fun ss O P => ∃ (lap : Int) (s : Sl) (ts : List Int), ss = [.d (.int lap), s] ∧ (SeqP s (dI ts) ∧ (1 ≤ lap ∧ lap ≤ 1440) ∧ 0 < ts.length ∧ ts.length ≤ 2000) ∧ P (.d (prD (meanP lap ts))) O
theorem sc_mean_of : FnScope ["lap", "times", "gap"] ["lap", "times"] (defScope s_mean_of) := ⟨rfl, rfl, rfl, by decide +kernel, rfl, by decide +kernel, by decide +kernel⟩
theorem C_mean_of (B : Bas mg) (F : Fn K mg "mean_of" s_mean_of ["lap", "times"]) (C_gaps_of : Cal P w K mg base "gaps_of" S_gaps_of 1) (C_reduced : Cal P w K mg base "reduced" S_reduced 2) : Cal P w K mg base "mean_of" S_mean_of 3 := by
  refine Cal.mkF F sc_mean_of (by rintro ss O P ⟨lap, s1, ts, rfl, _⟩; rfl) fun f cdv A outer s H E hr => ?_
  have hu := hr.units
  refine ⟨_, (pss_one (ps_ret (pe_cal C_reduced (hr.mono (by decide)) (by rfl) (pa_cons (pe_callB (cl_sum rfl) (by rfl) B.m_sum (by decide +kernel) (pa_cons (pe_lc (own := [("gap", 2)]) (g := (gName 2)) (tt := tYes) (te := (tOp (rI CMul fun i j => .int (i * j)) (tVar 2) (tOp (rI0 fun i j => .int (i - j)) (tVar 2) (tC (.int 1))))) rfl sc_mean_of.nd (pi_seq (pe_cal C_gaps_of (hr.mono (by decide)) (by rfl) (pa_cons (pv 0) (pa_cons (pv 1) pa_nil)))) (blkOk_by (own := [("gap", 2)]) (N := ["lap", "times", "gap"]) (by first | decide +kernel | kernel_rfl)) (fun _ _ _ _ _ => (pg_name (i := 2) sc_mean_of.nd rfl (.inl rfl))) (fun _ _ _ _ _ => pts_nil) (fun _ _ _ _ _ => (pe_op op_mul (pv 2) (pe_op op_sub (pv 2) pe_int)))) pa_nil)) (pa_cons (pe_op op_mul pe_int (pv 0)) pa_nil))))), ?_⟩
  dsimp only [cxOf, Cx.nox]
  rintro ss O P ⟨lap, s1, ts, rfl, ⟨hs, ⟨hl1, hl2⟩, h0, h1⟩, hP⟩
  change StW _ _ _ [_, _, .u] _
  have hz : (4000 : Nat) ≤ sizeLine := Nat.le_of_ble_eq_true rfl
  have hne := seqP_ne hs
  have hgl := gaps_len lap ts h0
  walk_at "ev"
  refine lc_xi (xs := gaps lap ts) (f := .int) (fun g => g * (g - 1)) (go_name (by decide)) ?_
  walk_at "ev"
  refine ⟨_, _, ts, rfl, ⟨hs, by omega, by omega, by omega⟩, ?_⟩
  walk_at "ev"
  refine ⟨fun x hx => ?_, ?_⟩
  · have hb := gap_bd (ts := ts) (show 0 < lap by omega) x hx
    walk_at "ev"
  · walk_at "ev"
    exact hP
abbrev S_wait_by : DS := fun ss O P => ∃ (lap : Int) (s : Sl) (ts : List Int) (m : Int), ss = [.d (.int lap), s, .d (.int m)] ∧ (SeqP s (dI ts) ∧ 0 < lap ∧ 0 < ts.length ∧ ts.length ≤ 2000) ∧ P (.d (.int (waitBy lap ts m))) O
theorem sc_wait_by : FnScope ["lap", "times", "minute", "time"] ["lap", "times", "minute"] (defScope s_wait_by) := ⟨rfl, rfl, rfl, by decide +kernel, rfl, by decide +kernel, by decide +kernel⟩
theorem C_wait_by (B : Bas mg) (F : Fn K mg "wait_by" s_wait_by ["lap", "times", "minute"])  : Cal P w K mg base "wait_by" S_wait_by 1 := by
  refine Cal.mkF F sc_wait_by (by rintro ss O P ⟨lap, s1, ts, m, rfl, _⟩; rfl) fun f cdv A outer s H E hr => ?_
  have hu := hr.units
  refine ⟨_, (pss_one (ps_ret (pe_callB (cl_minL rfl) (by rfl) B.m_min (by decide +kernel) (pa_cons (pe_lc (own := [("time", 3)]) (g := (gName 3)) (tt := tYes) (te := (tOp (rI (fun _ j => 0 < j) fun i j => .int (i % j)) (tOp (rI0 fun i j => .int (i - j)) (tVar 3) (tVar 2)) (tVar 0))) rfl sc_wait_by.nd (pi_seq (pv 1)) (blkOk_by (own := [("time", 3)]) (N := ["lap", "times", "minute", "time"]) (by first | decide +kernel | kernel_rfl)) (fun _ _ _ _ _ => (pg_name (i := 3) sc_wait_by.nd rfl (.inl rfl))) (fun _ _ _ _ _ => pts_nil) (fun _ _ _ _ _ => (pe_op op_mod (pe_op op_sub (pv 3) (pv 2)) (pv 0)))) pa_nil)))), ?_⟩
  dsimp only [cxOf, Cx.nox]
  rintro ss O P ⟨lap, s1, ts, m, rfl, ⟨hs, hl1, h0, h1⟩, hP⟩
  change StW _ _ _ [_, _, _, .u] _
  have hz : (4000 : Nat) ≤ sizeLine := Nat.le_of_ble_eq_true rfl
  have hne := seqP_ne hs
  walk_at "ev"
  refine lc_xi (xs := ts) (f := .int) (fun t => (t - m) % lap) (go_name (by decide)) ?_
  walk_at "ev"
  refine ⟨_, hs, ?_⟩
  walk_at "ev"
  refine ⟨fun x hx => ?_, ?_⟩
  · walk_at "ev"
  · walk_at "ev"
    refine ⟨by rw [List.length_map]; exact h0, fun m h1 h2 => ?_⟩
    rw [minI_eq h1 h2]
    exact hP
abbrev S_wait_at : DS := fun ss O P => ∃ (lap : Int) (ts : List Int) (m : Int), ss = [.d (.int lap), .d (.tuple (dI ts)), .d (.int m)] ∧ (Good lap ts ∧ 0 ≤ m ∧ m < lap) ∧ P (.d (.int (waitBy lap ts m))) O
theorem sc_wait_at : FnScope ["lap", "times", "minute"] ["lap", "times", "minute"] (defScope s_wait_at) := ⟨rfl, rfl, rfl, by decide +kernel, rfl, by decide +kernel, by decide +kernel⟩
theorem C_wait_at (B : Bas mg) (F : Fn K mg "wait_at" s_wait_at ["lap", "times", "minute"]) (C_check_times : Cal P w K mg base "check_times" S_check_times 4) (C_is_between : Cal P w K mg base "is_between" S_is_between 2) (C_wait_by : Cal P w K mg base "wait_by" S_wait_by 1) : Cal P w K mg base "wait_at" S_wait_at 5 := by
  refine Cal.mkF F sc_wait_at (by rintro ss O P ⟨lap, ts, m, rfl, _⟩; rfl) fun f cdv A outer s H E hr => ?_
  have hu := hr.units
  refine ⟨_, (pss_cons (ps_expr (pe_cal C_check_times (hr.mono (by decide)) (by rfl) (pa_cons (pv 0) (pa_cons (pv 1) pa_nil))))
 (pss_cons (ps_if (pt_not (pt_val (pe_cal C_is_between (hr.mono (by decide)) (by rfl) (pa_cons (pv 2) (pa_cons pe_int (pa_cons (pe_op op_sub (pv 0) pe_int) pa_nil)))))) pss_never pss_nil)
 (pss_one (ps_ret (pe_cal C_wait_by (hr.mono (by decide)) (by rfl) (pa_cons (pv 0) (pa_cons (pv 1) (pa_cons (pv 2) pa_nil)))))))), ?_⟩
  dsimp only [cxOf, Cx.nox]
  rintro ss O P ⟨lap, ts, m, rfl, ⟨hg, hm1, hm2⟩, hP⟩
  change StW _ _ _ [_, _, _] _
  have h1 := hg.l1
  have h3 := hg.ne
  have h4 := hg.le
  walk_at "ev"
  refine ⟨_, _, ts, _, rfl, ⟨.inr rfl, by omega, by omega, by omega⟩, hP⟩
abbrev S_mean_wait : DS := fun ss O P => ∃ (lap : Int) (ts : List Int), ss = [.d (.int lap), .d (.tuple (dI ts))] ∧ Good lap ts ∧ P (.d (prD (meanP lap ts))) O
theorem sc_mean_wait : FnScope ["lap", "times"] ["lap", "times"] (defScope s_mean_wait) := ⟨rfl, rfl, rfl, by decide +kernel, rfl, by decide +kernel, by decide +kernel⟩
theorem C_mean_wait (B : Bas mg) (F : Fn K mg "mean_wait" s_mean_wait ["lap", "times"]) (C_check_times : Cal P w K mg base "check_times" S_check_times 4) (C_mean_of : Cal P w K mg base "mean_of" S_mean_of 3) : Cal P w K mg base "mean_wait" S_mean_wait 5 := by
  refine Cal.mkF F sc_mean_wait (by rintro ss O P ⟨lap, ts, rfl, _⟩; rfl) fun f cdv A outer s H E hr => ?_
  have hu := hr.units
  refine ⟨_, (pss_cons (ps_expr (pe_cal C_check_times (hr.mono (by decide)) (by rfl) (pa_cons (pv 0) (pa_cons (pv 1) pa_nil))))
 (pss_one (ps_ret (pe_cal C_mean_of (hr.mono (by decide)) (by rfl) (pa_cons (pv 0) (pa_cons (pv 1) pa_nil)))))), ?_⟩
  dsimp only [cxOf, Cx.nox]
  rintro ss O P ⟨lap, ts, rfl, hg, hP⟩
  change StW _ _ _ [_, _] _
  have h1 := hg.l1
  have h2 := hg.l2
  have h3 := hg.ne
  have h4 := hg.le
  walk_at "ev"
  refine ⟨_, _, ts, rfl, ⟨.inr rfl, by omega, by omega, by omega⟩, hP⟩
abbrev S_worst_wait : DS := fun ss O P => ∃ (lap : Int) (ts : List Int), ss = [.d (.int lap), .d (.tuple (dI ts))] ∧ Good lap ts ∧ P (.d (prD (worst lap ts))) O
theorem sc_worst_wait : FnScope ["lap", "times", "rows", "most", "gap", "time", "minute"] ["lap", "times"] (defScope s_worst_wait) := ⟨rfl, rfl, rfl, by decide +kernel, rfl, by decide +kernel, by decide +kernel⟩
theorem C_worst_wait (B : Bas mg) (F : Fn K mg "worst_wait" s_worst_wait ["lap", "times"]) (C_check_times : Cal P w K mg base "check_times" S_check_times 4) (C_gaps_of : Cal P w K mg base "gaps_of" S_gaps_of 1) : Cal P w K mg base "worst_wait" S_worst_wait 5 := by
  refine Cal.mkF F sc_worst_wait (by rintro ss O P ⟨lap, ts, rfl, _⟩; rfl) fun f cdv A outer s H E hr => ?_
  have hu := hr.units
  refine ⟨_, (pss_cons (ps_expr (pe_cal C_check_times (hr.mono (by decide)) (by rfl) (pa_cons (pv 0) (pa_cons (pv 1) pa_nil))))
 (pss_cons (ps_setLc (i := 2) (own := [("gap", 4), ("time", 5)]) (g := (gTup K 2 (gCons (gName 4) (gCons (gName 5) gNil)))) (tt := tYes) (te := (tTup (tCons (tVar 4) (tCons (tOp (rI (fun _ j => 0 < j) fun i j => .int (i % j)) (tOp (rI0 fun i j => .int (i + j)) (tVar 5) (tC (.int 1))) (tVar 0)) tNil)))) rfl sc_worst_wait.nd rfl rfl (sw_true rfl rfl rfl (by decide +kernel)) (pi_zipU (by rfl) B.m_zip (pa_cons (pe_cal C_gaps_of (hr.mono (by decide)) (by rfl) (pa_cons (pv 0) (pa_cons (pv 1) pa_nil))) (pa_cons (pv 1) pa_nil))) (blkOk_by (own := [("gap", 4), ("time", 5)]) (N := ["lap", "times", "rows", "most", "gap", "time", "minute"]) (by first | decide +kernel | kernel_rfl)) (fun _ _ _ _ _ => (pg_tup rfl (pgs_cons (pg_name (i := 4) sc_worst_wait.nd rfl (.inl rfl)) (pgs_cons (pg_name (i := 5) sc_worst_wait.nd rfl (.inl rfl)) pgs_nil)))) (fun _ _ _ _ _ => pts_nil) (fun _ _ _ _ _ => (pe_tup (pa_cons (pv 4) (pa_cons (pe_op op_mod (pe_op op_add (pv 5) pe_int) (pv 0)) pa_nil)))))
 (pss_cons (ps_set (i := 3) sc_worst_wait.nd rfl (.inr rfl) (pe_callB (cl_maxL rfl) (by rfl) B.m_max (by decide +kernel) (pa_cons (pe_lc (own := [("gap", 4), ("minute", 6)]) (g := (gTup K 2 (gCons (gName 4) (gCons (gName 6) gNil)))) (tt := tYes) (te := (tVar 4)) rfl sc_worst_wait.nd (pi_seq (pv 2)) (blkOk_by (own := [("gap", 4), ("minute", 6)]) (N := ["lap", "times", "rows", "most", "gap", "time", "minute"]) (by first | decide +kernel | kernel_rfl)) (fun _ _ _ _ _ => (pg_tup rfl (pgs_cons (pg_name (i := 4) sc_worst_wait.nd rfl (.inl rfl)) (pgs_cons (pg_name (i := 6) sc_worst_wait.nd rfl (.inl rfl)) pgs_nil)))) (fun _ _ _ _ _ => pts_nil) (fun _ _ _ _ _ => (pv 4))) pa_nil)))
 (pss_one (ps_ret (pe_tup (pa_cons (pe_op op_sub (pv 3) pe_int) (pa_cons (pe_callB (cl_minL rfl) (by rfl) B.m_min (by decide +kernel) (pa_cons (pe_lc (own := [("gap", 4), ("minute", 6)]) (g := (gTup K 2 (gCons (gName 4) (gCons (gName 6) gNil)))) (tt := (tTest (tOp (rEqD K) (tVar 4) (tVar 3)))) (te := (tVar 6)) rfl sc_worst_wait.nd (pi_seq (pv 2)) (blkOk_by (own := [("gap", 4), ("minute", 6)]) (N := ["lap", "times", "rows", "most", "gap", "time", "minute"]) (by first | decide +kernel | kernel_rfl)) (fun _ _ _ _ _ => (pg_tup rfl (pgs_cons (pg_name (i := 4) sc_worst_wait.nd rfl (.inl rfl)) (pgs_cons (pg_name (i := 6) sc_worst_wait.nd rfl (.inl rfl)) pgs_nil)))) (fun _ _ _ _ _ => (pts_one (pt_cmpR (op_eqD hu) (pv 4) (pv 3) (nomark _)))) (fun _ _ _ _ _ => (pv 6))) pa_nil)) pa_nil)))))))), ?_⟩
  dsimp only [cxOf, Cx.nox]
  rintro ss O P ⟨lap, ts, rfl, hg, hP⟩
  change StW _ _ _ [_, _, .u, .u, .u, .u, .u] _
  have h1 := hg.l1
  have h2 := hg.l2
  have h3 := hg.ne
  have h4 := hg.le
  have hz : (4000 : Nat) ≤ sizeLine := Nat.le_of_ble_eq_true rfl
  have hgl := gaps_len lap ts h3
  have hzl : ((gaps lap ts).zip ts).length = ts.length := by rw [List.length_zip]; omega
  walk_at "ev"
  refine lc_map (xs := (gaps lap ts).zip ts) (f := fun p => .tuple [.int p.1, .int p.2]) (fun p => .tuple [.int p.1, .int ((p.2 + 1) % lap)]) (go_tup (gso_cons gm_name (go_name (by decide)) (gso_cons gm_name (go_name (by decide)) gso_nil))) ?_
  walk_at "ev"
  refine ⟨_, _, ts, rfl, ⟨.inr rfl, by omega, by omega, by omega⟩, ?_⟩
  walk_at "ev"
  rw [zip_dI]
  refine ⟨rfl, rfl, by omega, fun x hx => ?_, ?_⟩
  · walk_at "ev"
  · walk_at "ev"
    refine lc_xi (xs := (gaps lap ts).zip ts) (f := fun p => .tuple [.int p.1, .int ((p.2 + 1) % lap)]) (fun p => p.1) (go_tup (gso_cons gm_name (go_name (by decide)) (gso_cons gm_name (go_name (by decide)) gso_nil))) ?_
    walk_at "ev"
    refine ⟨fun x hx => ?_, ?_⟩
    · walk_at "ev"
    · walk_at "ev"
      have hfst : ((gaps lap ts).zip ts).map (fun p => p.1) = gaps lap ts := by
        show List.map Prod.fst _ = _
        rw [List.map_fst_zip (by omega)]
      rw [hfst]
      refine ⟨by omega, fun m h1 h2 => ?_⟩
      have hm := maxI_eq h1 h2
      subst hm
      walk_at "ev"
      refine lc_xf (xs := (gaps lap ts).zip ts) (f := fun p => .tuple [.int p.1, .int ((p.2 + 1) % lap)]) (fun p => decide (p.1 = maxI (gaps lap ts))) (fun p => (p.2 + 1) % lap) (go_tup (gso_cons gm_name (go_name (by decide)) (gso_cons gm_name (go_name (by decide)) gso_nil))) ?_
      walk_at "ev"
      refine ⟨fun x hx => ?_, ?_⟩
      · walk_at "ev"
        intro _
        walk_at "ev"
      · walk_at "ev"
        refine ⟨?_, fun m h3 h4 => ?_⟩
        · obtain ⟨i, hi, e⟩ := List.getElem_of_mem h1
          have hmem : ((gaps lap ts)[i], ts[i]'(by omega)) ∈ ((gaps lap ts).zip ts).filter fun p => decide (p.1 = maxI (gaps lap ts)) := by
            refine List.mem_filter.mpr ⟨?_, decide_eq_true e⟩
            have hi2 : i < ((gaps lap ts).zip ts).length := by omega
            have := List.getElem_mem hi2
            rw [List.getElem_zip] at this
            exact this
          rw [List.length_map]
          exact List.length_pos_of_mem hmem
        · walk_at "ev"
          rw [minI_eq h3 h4]
          exact hP
abbrev S_told_lengths : DS := fun ss O P => ∃ (lap : Int) (ts : List Int), ss = [.d (.int lap), .d (.tuple (dI ts))] ∧ Good lap ts ∧ P (.d (.list (dI (told lap ts)))) O
theorem sc_told_lengths : FnScope ["lap", "times", "gaps", "number", "gap"] ["lap", "times"] (defScope s_told_lengths) := ⟨rfl, rfl, rfl, by decide +kernel, rfl, by decide +kernel, by decide +kernel⟩
theorem C_told_lengths (B : Bas mg) (F : Fn K mg "told_lengths" s_told_lengths ["lap", "times"]) (C_gaps_of : Cal P w K mg base "gaps_of" S_gaps_of 1) : Cal P w K mg base "told_lengths" S_told_lengths 2 := by
  refine Cal.mkF F sc_told_lengths (by rintro ss O P ⟨lap, ts, rfl, _⟩; rfl) fun f cdv A outer s H E hr => ?_
  have hu := hr.units
  refine ⟨_, (pss_cons (ps_set (i := 2) sc_told_lengths.nd rfl (.inr rfl) (pe_cal C_gaps_of (hr.mono (by decide)) (by rfl) (pa_cons (pv 0) (pa_cons (pv 1) pa_nil))))
 (pss_one (ps_ret (pe_lc (own := [("number", 3)]) (g := (gName 3)) (tt := tYes) (te := (tCB (rOf K sLen) (tCons (tLc (iSeq K (tVar 2)) (gName 4) (tTest (tOp (rI0 fun i j => .bl (decide (i > j))) (tVar 4) (tVar 3))) (tVar 4) [4]) tNil))) rfl sc_told_lengths.nd (pi_range1 (by rfl) B.m_range (pa_cons (pe_callB (cl_maxL rfl) (by rfl) B.m_max (by decide +kernel) (pa_cons (pv 2) pa_nil)) pa_nil)) (blkOk_by (own := [("number", 3)]) (N := ["lap", "times", "gaps", "number", "gap"]) (by first | decide +kernel | kernel_rfl)) (fun _ _ _ _ _ => (pg_name (i := 3) sc_told_lengths.nd rfl (.inr rfl))) (fun _ _ _ _ _ => pts_nil) (fun _ _ _ _ _ => (pe_callB cl_len (by rfl) B.m_len (by decide +kernel) (pa_cons (pe_lc (own := [("gap", 4)]) (g := (gName 4)) (tt := (tTest (tOp (rI0 fun i j => .bl (decide (i > j))) (tVar 4) (tVar 3)))) (te := (tVar 4)) rfl sc_told_lengths.nd (pi_seq (pv 2)) (blkOk_by (own := [("gap", 4)]) (N := ["lap", "times", "gaps", "number", "gap"]) (by first | decide +kernel | kernel_rfl)) (fun _ _ _ _ _ => (pg_name (i := 4) sc_told_lengths.nd rfl (.inl rfl))) (fun _ _ _ _ _ => (pts_one (pt_cmpR op_gt (pv 4) (pv 3) (nomark _)))) (fun _ _ _ _ _ => (pv 4))) pa_nil))))))), ?_⟩
  dsimp only [cxOf, Cx.nox]
  rintro ss O P ⟨lap, ts, rfl, hg, hP⟩
  change StW _ _ _ [_, _, .u, .u, .u] _
  have h1 := hg.l1
  have h2 := hg.l2
  have h3 := hg.ne
  have h4 := hg.le
  have hz : (4000 : Nat) ≤ sizeLine := Nat.le_of_ble_eq_true rfl
  have hgl := gaps_len lap ts h3
  obtain ⟨hm1, hm2⟩ := maxI_spec (gaps_ne (lap := lap) h3)
  have hm3 := gap_bd (ts := ts) (show 0 < lap by omega) _ hm1
  walk_at "ev"
  refine ⟨_, _, ts, rfl, ⟨.inr rfl, by omega, by omega, by omega⟩, ?_⟩
  walk_at "ev"
  refine lc_xi (xs := rng (maxI (gaps lap ts)).toNat) (f := .int) (fun k => (((gaps lap ts).filter fun g => decide (g > k)).length : Int)) (go_name (by decide)) ?_
  walk_at "ev"
  intro m h6 h7
  rw [maxI_eq h6 h7]
  walk_at "ev"
  rw [rgD_dI]
  have hrl := rng_len (maxI (gaps lap ts)).toNat
  refine ⟨rfl, rfl, by omega, fun x hx => ?_, ?_⟩
  · walk_at "ev"
    refine lc_xf (xs := gaps lap ts) (f := .int) (fun g => decide (g > x)) (fun g => g) (go_name (by decide)) ?_
    walk_at "ev"
    refine ⟨fun y hy => ?_, ?_⟩
    · walk_at "ev"
      intro _
      walk_at "ev"
    · walk_at "ev"
      rw [List.map_id', dI_len]
      walk_at "ev"
  · exact hP
end
end
section
open PySem PySem.Spec PyProof.Rows L2 AL
section
variable {P : Program} {w : World} {K : PySem.W.Frag} {mg : Str → Option Value} {base : Heap}
abbrev S_how_long : DS := fun ss O P => ∃ (lap : Int) (ts : List Int), ss = [.d (.int lap), .d (.tuple (dI ts))] ∧ Good lap ts ∧ P (.d (.tuple (dI (told lap ts)))) O
theorem sc_how_long : FnScope ["lap", "times"] ["lap", "times"] (defScope s_how_long) := ⟨rfl, rfl, rfl, by decide +kernel, rfl, by decide +kernel, by decide +kernel⟩
theorem C_how_long (B : Bas mg) (F : Fn K mg "how_long" s_how_long ["lap", "times"]) (C_check_times : Cal P w K mg base "check_times" S_check_times 4) (C_told_lengths : Cal P w K mg base "told_lengths" S_told_lengths 2) : Cal P w K mg base "how_long" S_how_long 5 := by
  refine Cal.mkF F sc_how_long (by rintro ss O P ⟨lap, ts, rfl, _⟩; rfl) fun f cdv A outer s H E hr => ?_
  have hu := hr.units
  refine ⟨_, (pss_cons (ps_expr (pe_cal C_check_times (hr.mono (by decide)) (by rfl) (pa_cons (pv 0) (pa_cons (pv 1) pa_nil))))
 (pss_one (ps_ret (pe_callTy cl_tuple (by rfl) B.m_tuple (by decide +kernel) (pa_cons (pe_cal C_told_lengths (hr.mono (by decide)) (by rfl) (pa_cons (pv 0) (pa_cons (pv 1) pa_nil))) pa_nil))))), ?_⟩
  dsimp only [cxOf, Cx.nox]
  rintro ss O P ⟨lap, ts, rfl, hg, hP⟩
  change StW _ _ _ [_, _] _
  walk_at "ev"
  exact hP
abbrev S_half_wait : DS := fun ss O P => ∃ (lap : Int) (ts : List Int) (a b : Int), ss = [.d (.int lap), .d (.tuple (dI ts)), .d (prD (a, b))] ∧ (Good lap ts ∧ 0 < b ∧ b < 2 ^ 29 ∧ Int.gcd a b = 1 ∧ 0 ≤ a ∧ a ≤ b) ∧ P (.d (.int (half lap ts a b))) O
theorem sc_half_wait : FnScope ["lap", "times", "part", "total", "number", "many"] ["lap", "times", "part"] (defScope s_half_wait) := ⟨rfl, rfl, rfl, by decide +kernel, rfl, by decide +kernel, by decide +kernel⟩
theorem C_half_wait (B : Bas mg) (F : Fn K mg "half_wait" s_half_wait ["lap", "times", "part"]) (C_check_times : Cal P w K mg base "check_times" S_check_times 4) (C_is_fraction : Cal P w K mg base "is_fraction" S_is_fraction 2) (C_told_lengths : Cal P w K mg base "told_lengths" S_told_lengths 2) : Cal P w K mg base "half_wait" S_half_wait 5 := by
  refine Cal.mkF F sc_half_wait (by rintro ss O P ⟨lap, ts, a, b, rfl, _⟩; rfl) fun f cdv A outer s H E hr => ?_
  have hu := hr.units
  refine ⟨_, (pss_cons (ps_expr (pe_cal C_check_times (hr.mono (by decide)) (by rfl) (pa_cons (pv 0) (pa_cons (pv 1) pa_nil))))
 (pss_cons (ps_if (PW.pt (pw_or (pt_not (pt_val (pe_cal C_is_fraction (hr.mono (by decide)) (by rfl) (pa_cons (pv 2) pa_nil)))) (pw_or1 (pt_not (pt_chain op_le op_le pe_int (pe_ix ix_seq (pv 2) pe_int (fun _ _ => rfl)) (pe_ix ix_seq (pv 2) pe_int (fun _ _ => rfl))))))) pss_never pss_nil)
 (pss_cons (ps_set (i := 3) sc_half_wait.nd rfl (.inl rfl) pe_int)
 (pss_cons (ps_for PassesOwn.never rfl (pi_enumU (by rfl) B.m_enumerate (pa_cons (pe_cal C_told_lengths (hr.mono (by decide)) (by rfl) (pa_cons (pv 0) (pa_cons (pv 1) pa_nil))) pa_nil)) (pg_tup rfl (pgs_cons (pg_name (i := 4) sc_half_wait.nd rfl (.inl rfl)) (pgs_cons (pg_name (i := 5) sc_half_wait.nd rfl (.inl rfl)) pgs_nil))) (pss_cons (ps_set (i := 3) sc_half_wait.nd rfl (.inl rfl) (pe_op op_add (pv 3) (pv 5)))
 (pss_one (ps_if (pt_cmpR op_ge (pe_op op_mul (pv 3) (pe_ix ix_seq (pv 2) pe_int (fun _ _ => rfl))) (pe_op op_mul (pe_ix ix_seq (pv 2) pe_int (fun _ _ => rfl)) (pv 0)) (nomark _)) (pss_one (ps_ret (pv 4))) pss_nil))))
 (pss_one (ps_ret (pe_op op_sub (pv 0) pe_int))))))), ?_⟩
  dsimp only [cxOf, Cx.nox]
  rintro ss O P ⟨lap, ts, a, b, rfl, ⟨hg, hb, hb2, hab, ha, hab2⟩, hP⟩
  change StW _ _ _ [_, _, _, .u, .u, .u] _
  have h1 := hg.l1
  have h2 := hg.l2
  walk_at "ev"
  refine st_for ?_
  walk_at "ev"
  rw [enum_dI]
  refine ⟨fun i ρ O' => O' = O ∧ ∃ x y : Sl, ρ = [.d (.int lap), .d (.tuple (dI ts)), .d (prD (a, b)), .d (.int ((told lap ts).take i).sum), x, y] ∧ halfGo a b lap ((told lap ts).drop i) i ((told lap ts).take i).sum = half lap ts a b, ⟨rfl, .u, .u, rfl, rfl⟩, ?_, ?_⟩
  · rintro i d ρ O' hd ⟨rfl, x, y, rfl, hh⟩
    obtain ⟨c, hc, rfl⟩ := enum_get hd
    rw [drop_cons hc] at hh
    unfold halfGo at hh
    walk_at "ev"
    refine ⟨fun h => ?_, fun h => ?_⟩
    · rw [if_pos (of_decide_eq_true h)] at hh
      walk_at "ev"
      rw [hh]
      exact hP
    · rw [if_neg (of_decide_eq_false h)] at hh
      walk_at "ev"
      rw [take_sum_succ hc]
      exact ⟨_, _, rfl, hh⟩
  · rintro ρ O' ⟨rfl, x, y, rfl, hh⟩
    rw [List.length_map, List.length_zipIdx, List.drop_length] at hh
    walk_at "ev"
    rw [show lap - 1 = half lap ts a b from hh]
    exact hP
abbrev S_even_times : DS := fun ss O P => ∃ (lap many : Int), ss = [.d (.int lap), .d (.int many)] ∧ (1 ≤ lap ∧ lap ≤ 1440 ∧ 0 < many ∧ many ≤ 2000) ∧ P (.d (.tuple (dI (evens lap many)))) O
theorem sc_even_times : FnScope ["lap", "many", "at"] ["lap", "many"] (defScope s_even_times) := ⟨rfl, rfl, rfl, by decide +kernel, rfl, by decide +kernel, by decide +kernel⟩
theorem C_even_times (B : Bas mg) (F : Fn K mg "even_times" s_even_times ["lap", "many"])  : Cal P w K mg base "even_times" S_even_times 1 := by
  refine Cal.mkF F sc_even_times (by rintro ss O P ⟨lap, many, rfl, _⟩; rfl) fun f cdv A outer s H E hr => ?_
  have hu := hr.units
  refine ⟨_, (pss_one (ps_ret (pe_callTy cl_tuple (by rfl) B.m_tuple (by decide +kernel) (pa_cons (pe_lc (own := [("at", 2)]) (g := (gName 2)) (tt := tYes) (te := (tOp (rI CDiv fun i j => .int (i / j)) (tOp (rI CMul fun i j => .int (i * j)) (tVar 2) (tVar 0)) (tVar 1))) rfl sc_even_times.nd (pi_range1 (by rfl) B.m_range (pa_cons (pv 1) pa_nil)) (blkOk_by (own := [("at", 2)]) (N := ["lap", "many", "at"]) (by first | decide +kernel | kernel_rfl)) (fun _ _ _ _ _ => (pg_name (i := 2) sc_even_times.nd rfl (.inl rfl))) (fun _ _ _ _ _ => pts_nil) (fun _ _ _ _ _ => (pe_op op_fdiv (pe_op op_mul (pv 2) (pv 0)) (pv 1)))) pa_nil)))), ?_⟩
  dsimp only [cxOf, Cx.nox]
  rintro ss O P ⟨lap, many, rfl, ⟨h1, h2, h3, h4⟩, hP⟩
  change StW _ _ _ [_, _, .u] _
  have hz : (4000 : Nat) ≤ sizeLine := Nat.le_of_ble_eq_true rfl
  have hrl := rng_len many.toNat
  walk_at "ev"
  refine lc_xi (xs := rng many.toNat) (f := .int) (fun k => k * lap / many) (go_name (by decide)) ?_
  walk_at "ev"
  rw [rgD_dI]
  refine ⟨rfl, rfl, by omega, fun x hx => ?_, ?_⟩
  · have := rng_mem.mp hx
    walk_at "ev"
  · walk_at "ev"
    exact hP
abbrev S_check_spread : DS := fun ss O P => ∃ (lap many : Int), ss = [.d (.int lap), .d (.int many)] ∧ (1 ≤ lap ∧ lap ≤ 1440 ∧ 0 < many ∧ many ≤ lap ∧ many ≤ 60) ∧ P (.d .none) O
theorem sc_check_spread : FnScope ["lap", "many"] ["lap", "many"] (defScope s_check_spread) := ⟨rfl, rfl, rfl, by decide +kernel, rfl, by decide +kernel, by decide +kernel⟩
theorem C_check_spread (B : Bas mg) (F : Fn K mg "check_spread" s_check_spread ["lap", "many"]) (C_check_lap : Cal P w K mg base "check_lap" S_check_lap 3) (C_is_between : Cal P w K mg base "is_between" S_is_between 2) : Cal P w K mg base "check_spread" S_check_spread 4 := by
  refine Cal.mkF F sc_check_spread (by rintro ss O P ⟨lap, many, rfl, _⟩; rfl) fun f cdv A outer s H E hr => ?_
  have hu := hr.units
  refine ⟨_, (pss_cons (ps_expr (pe_cal C_check_lap (hr.mono (by decide)) (by rfl) (pa_cons (pv 0) pa_nil)))
 (pss_one (ps_if (pt_not (pt_val (pe_cal C_is_between (hr.mono (by decide)) (by rfl) (pa_cons (pv 1) (pa_cons pe_int (pa_cons (pe_callB (cl_min2 rfl) (by rfl) B.m_min (by decide +kernel) (pa_cons (pv 0) (pa_cons (pe_gint (by rfl) B.c_MOST_TIMES) pa_nil))) pa_nil)))))) pss_never pss_nil))), ?_⟩
  dsimp only [cxOf, Cx.nox]
  rintro ss O P ⟨lap, many, rfl, ⟨h1, h2, h3, h4, h5⟩, hP⟩
  change StW _ _ _ [_, _] _
  walk_at "ev"
  exact hP
abbrev S_spread : DS := fun ss O P => ∃ (lap many : Int), ss = [.d (.int lap), .d (.int many)] ∧ (1 ≤ lap ∧ lap ≤ 1440 ∧ 0 < many ∧ many ≤ lap ∧ many ≤ 60) ∧ P (.d (.tuple [prD (meanP lap (evens lap many)), .tuple (dI (evens lap many))])) O
theorem sc_spread : FnScope ["lap", "many", "times"] ["lap", "many"] (defScope s_spread) := ⟨rfl, rfl, rfl, by decide +kernel, rfl, by decide +kernel, by decide +kernel⟩
theorem C_spread (B : Bas mg) (F : Fn K mg "spread" s_spread ["lap", "many"]) (C_check_spread : Cal P w K mg base "check_spread" S_check_spread 4) (C_even_times : Cal P w K mg base "even_times" S_even_times 1) (C_mean_of : Cal P w K mg base "mean_of" S_mean_of 3) : Cal P w K mg base "spread" S_spread 5 := by
  refine Cal.mkF F sc_spread (by rintro ss O P ⟨lap, many, rfl, _⟩; rfl) fun f cdv A outer s H E hr => ?_
  have hu := hr.units
  refine ⟨_, (pss_cons (ps_expr (pe_cal C_check_spread (hr.mono (by decide)) (by rfl) (pa_cons (pv 0) (pa_cons (pv 1) pa_nil))))
 (pss_cons (ps_set (i := 2) sc_spread.nd rfl (.inl rfl) (pe_cal C_even_times (hr.mono (by decide)) (by rfl) (pa_cons (pv 0) (pa_cons (pv 1) pa_nil))))
 (pss_one (ps_ret (pe_tup (pa_cons (pe_cal C_mean_of (hr.mono (by decide)) (by rfl) (pa_cons (pv 0) (pa_cons (pv 2) pa_nil))) (pa_cons (pv 2) pa_nil))))))), ?_⟩
  dsimp only [cxOf, Cx.nox]
  rintro ss O P ⟨lap, many, rfl, ⟨h1, h2, h3, h4, h5⟩, hP⟩
  change StW _ _ _ [_, _, .u] _
  have hel := evens_len lap many
  walk_at "ev"
  refine ⟨_, _, evens lap many, rfl, ⟨.inr rfl, ⟨h1, h2⟩, by omega, by omega⟩, ?_⟩
  walk_at "ev"
  exact hP
abbrev S_check_most : DS := fun ss O P => ∃ (lap most : Int), ss = [.d (.int lap), .d (.int most)] ∧ (1 ≤ lap ∧ lap ≤ 1440 ∧ 0 ≤ most ∧ most ≤ 1440 ∧ (lap + most) / (most + 1) ≤ 60) ∧ P (.d (.int ((lap + most) / (most + 1)))) O
theorem sc_check_most : FnScope ["lap", "most", "many"] ["lap", "most"] (defScope s_check_most) := ⟨rfl, rfl, rfl, by decide +kernel, rfl, by decide +kernel, by decide +kernel⟩
theorem C_check_most (B : Bas mg) (F : Fn K mg "check_most" s_check_most ["lap", "most"]) (C_check_lap : Cal P w K mg base "check_lap" S_check_lap 3) (C_is_between : Cal P w K mg base "is_between" S_is_between 2) : Cal P w K mg base "check_most" S_check_most 4 := by
  refine Cal.mkF F sc_check_most (by rintro ss O P ⟨lap, most, rfl, _⟩; rfl) fun f cdv A outer s H E hr => ?_
  have hu := hr.units
  refine ⟨_, (pss_cons (ps_expr (pe_cal C_check_lap (hr.mono (by decide)) (by rfl) (pa_cons (pv 0) pa_nil)))
 (pss_cons (ps_if (pt_not (pt_val (pe_cal C_is_between (hr.mono (by decide)) (by rfl) (pa_cons (pv 1) (pa_cons pe_int (pa_cons (pe_gint (by rfl) B.c_MOST_LAP) pa_nil)))))) pss_never pss_nil)
 (pss_cons (ps_set (i := 2) sc_check_most.nd rfl (.inl rfl) (pe_op op_fdiv (pe_op op_add (pv 0) (pv 1)) (pe_op op_add (pv 1) pe_int)))
 (pss_cons (ps_if (pt_cmpR op_gt (pv 2) (pe_gint (by rfl) B.c_MOST_TIMES) (nomark _)) pss_never pss_nil)
 (pss_one (ps_ret (pv 2))))))), ?_⟩
  dsimp only [cxOf, Cx.nox]
  rintro ss O P ⟨lap, most, rfl, ⟨h1, h2, h3, h4, h5⟩, hP⟩
  change StW _ _ _ [_, _, .u] _
  walk_at "ev"
  exact hP
abbrev S_enough_for : DS := fun ss O P => ∃ (lap most : Int), ss = [.d (.int lap), .d (.int most)] ∧ (1 ≤ lap ∧ lap ≤ 1440 ∧ 0 ≤ most ∧ most ≤ 1440 ∧ (lap + most) / (most + 1) ≤ 60) ∧ P (.d (.tuple [.int ((lap + most) / (most + 1)), .tuple (dI (evens lap ((lap + most) / (most + 1))))])) O
theorem sc_enough_for : FnScope ["lap", "most", "many"] ["lap", "most"] (defScope s_enough_for) := ⟨rfl, rfl, rfl, by decide +kernel, rfl, by decide +kernel, by decide +kernel⟩
theorem C_enough_for (B : Bas mg) (F : Fn K mg "enough_for" s_enough_for ["lap", "most"]) (C_check_most : Cal P w K mg base "check_most" S_check_most 4) (C_even_times : Cal P w K mg base "even_times" S_even_times 1) : Cal P w K mg base "enough_for" S_enough_for 5 := by
  refine Cal.mkF F sc_enough_for (by rintro ss O P ⟨lap, most, rfl, _⟩; rfl) fun f cdv A outer s H E hr => ?_
  have hu := hr.units
  refine ⟨_, (pss_cons (ps_set (i := 2) sc_enough_for.nd rfl (.inl rfl) (pe_cal C_check_most (hr.mono (by decide)) (by rfl) (pa_cons (pv 0) (pa_cons (pv 1) pa_nil))))
 (pss_one (ps_ret (pe_tup (pa_cons (pv 2) (pa_cons (pe_cal C_even_times (hr.mono (by decide)) (by rfl) (pa_cons (pv 0) (pa_cons (pv 2) pa_nil))) pa_nil)))))), ?_⟩
  dsimp only [cxOf, Cx.nox]
  rintro ss O P ⟨lap, most, rfl, ⟨h1, h2, h3, h4, h5⟩, hP⟩
  change StW _ _ _ [_, _, .u] _
  have h6 : 1 ≤ (lap + most) / (most + 1) := (Int.le_ediv_iff_mul_le (by omega)).mpr (by omega)
  walk_at "ev"
  exact hP
abbrev S_check_both : DS := fun ss O P => ∃ (lap : Int) (one other : List Int) (change : Int), ss = [.d (.int lap), .d (.tuple (dI one)), .d (.tuple (dI other)), .d (.int change)] ∧ (Good lap one ∧ Good lap other ∧ 0 ≤ change ∧ change ≤ 1440) ∧ P (.d .none) O
theorem sc_check_both : FnScope ["lap", "one", "other", "change"] ["lap", "one", "other", "change"] (defScope s_check_both) := ⟨rfl, rfl, rfl, by decide +kernel, rfl, by decide +kernel, by decide +kernel⟩
theorem C_check_both (B : Bas mg) (F : Fn K mg "check_both" s_check_both ["lap", "one", "other", "change"]) (C_check_times : Cal P w K mg base "check_times" S_check_times 4) (C_is_between : Cal P w K mg base "is_between" S_is_between 2) : Cal P w K mg base "check_both" S_check_both 5 := by
  refine Cal.mkF F sc_check_both (by rintro ss O P ⟨lap, one, other, change, rfl, _⟩; rfl) fun f cdv A outer s H E hr => ?_
  have hu := hr.units
  refine ⟨_, (pss_cons (ps_expr (pe_cal C_check_times (hr.mono (by decide)) (by rfl) (pa_cons (pv 0) (pa_cons (pv 1) pa_nil))))
 (pss_cons (ps_expr (pe_cal C_check_times (hr.mono (by decide)) (by rfl) (pa_cons (pv 0) (pa_cons (pv 2) pa_nil))))
 (pss_one (ps_if (pt_not (pt_val (pe_cal C_is_between (hr.mono (by decide)) (by rfl) (pa_cons (pv 3) (pa_cons pe_int (pa_cons (pe_gint (by rfl) B.c_MOST_LAP) pa_nil)))))) pss_never pss_nil)))), ?_⟩
  dsimp only [cxOf, Cx.nox]
  rintro ss O P ⟨lap, one, other, change, rfl, ⟨hg, hg2, hc1, hc2⟩, hP⟩
  change StW _ _ _ [_, _, _, _] _
  walk_at "ev"
  exact hP
abbrev S_put_later : DS := fun ss O P => ∃ (lap : Int) (ts : List Int) (shift : Int), ss = [.d (.int lap), .d (.tuple (dI ts)), .d (.int shift)] ∧ (0 < lap ∧ ts.length ≤ 2000) ∧ P (.d (.list (dI (later lap ts shift)))) O
theorem sc_put_later : FnScope ["lap", "times", "shift", "time"] ["lap", "times", "shift"] (defScope s_put_later) := ⟨rfl, rfl, rfl, by decide +kernel, rfl, by decide +kernel, by decide +kernel⟩
theorem C_put_later (B : Bas mg) (F : Fn K mg "put_later" s_put_later ["lap", "times", "shift"])  : Cal P w K mg base "put_later" S_put_later 1 := by
  refine Cal.mkF F sc_put_later (by rintro ss O P ⟨lap, ts, shift, rfl, _⟩; rfl) fun f cdv A outer s H E hr => ?_
  have hu := hr.units
  refine ⟨_, (pss_one (ps_ret (pe_lc (own := [("time", 3)]) (g := (gName 3)) (tt := tYes) (te := (tOp (rI (fun _ j => 0 < j) fun i j => .int (i % j)) (tOp (rI0 fun i j => .int (i + j)) (tVar 3) (tVar 2)) (tVar 0))) rfl sc_put_later.nd (pi_seq (pv 1)) (blkOk_by (own := [("time", 3)]) (N := ["lap", "times", "shift", "time"]) (by first | decide +kernel | kernel_rfl)) (fun _ _ _ _ _ => (pg_name (i := 3) sc_put_later.nd rfl (.inl rfl))) (fun _ _ _ _ _ => pts_nil) (fun _ _ _ _ _ => (pe_op op_mod (pe_op op_add (pv 3) (pv 2)) (pv 0)))))), ?_⟩
  dsimp only [cxOf, Cx.nox]
  rintro ss O P ⟨lap, ts, shift, rfl, ⟨hl, h1⟩, hP⟩
  change StW _ _ _ [_, _, _, .u] _
  have hz : (4000 : Nat) ≤ sizeLine := Nat.le_of_ble_eq_true rfl
  walk_at "ev"
  refine lc_xi (xs := ts) (f := .int) (fun t => (t + shift) % lap) (go_name (by decide)) ?_
  walk_at "ev"
  refine ⟨fun x hx => ?_, ?_⟩
  · walk_at "ev"
  · exact hP
abbrev S_change_by : DS := fun ss O P => ∃ (lap : Int) (one other : List Int) (s : Sl) (change : Int), ss = [.d (.int lap), .d (.tuple (dI one)), s, .d (.int change)] ∧ (SeqP s (dI other) ∧ 0 < lap ∧ 0 < one.length ∧ one.length ≤ 2000 ∧ 0 < other.length ∧ other.length ≤ 2000) ∧ P (.d (prD (changeP lap one other change))) O
theorem sc_change_by : FnScope ["lap", "one", "other", "change", "time"] ["lap", "one", "other", "change"] (defScope s_change_by) := ⟨rfl, rfl, rfl, by decide +kernel, rfl, by decide +kernel, by decide +kernel⟩
theorem C_change_by (B : Bas mg) (F : Fn K mg "change_by" s_change_by ["lap", "one", "other", "change"]) (C_reduced : Cal P w K mg base "reduced" S_reduced 2) (C_wait_by : Cal P w K mg base "wait_by" S_wait_by 1) : Cal P w K mg base "change_by" S_change_by 3 := by
  refine Cal.mkF F sc_change_by (by rintro ss O P ⟨lap, one, other, s1, change, rfl, _⟩; rfl) fun f cdv A outer s H E hr => ?_
  have hu := hr.units
  refine ⟨_, (pss_one (ps_ret (pe_cal C_reduced (hr.mono (by decide)) (by rfl) (pa_cons (pe_callB (cl_sum rfl) (by rfl) B.m_sum (by decide +kernel) (pa_cons (pe_lc (own := [("time", 4)]) (g := (gName 4)) (tt := tYes) (te := (tCall (spA K S_wait_by) [] E0 (tCons (tVar 0) (tCons (tVar 2) (tCons (tOp (rI0 fun i j => .int (i + j)) (tVar 4) (tVar 3)) tNil))))) rfl sc_change_by.nd (pi_seq (pv 1)) (blkOk_by (own := [("time", 4)]) (N := ["lap", "one", "other", "change", "time"]) (by first | decide +kernel | kernel_rfl)) (fun _ _ _ _ _ => (pg_name (i := 4) sc_change_by.nd rfl (.inl rfl))) (fun _ _ _ _ _ => pts_nil) (fun _ _ _ _ _ => (pe_cal C_wait_by (hr.mono (by decide)) (by rfl) (pa_cons (pv 0) (pa_cons (pv 2) (pa_cons (pe_op op_add (pv 4) (pv 3)) pa_nil)))))) pa_nil)) (pa_cons (pe_callB cl_len (by rfl) B.m_len (by decide +kernel) (pa_cons (pv 1) pa_nil)) pa_nil))))), ?_⟩
  dsimp only [cxOf, Cx.nox]
  rintro ss O P ⟨lap, one, other, s1, change, rfl, ⟨hs, hl, h1, h2, h3, h4⟩, hP⟩
  change StW _ _ _ [_, _, _, _, .u] _
  have hz : (4000 : Nat) ≤ sizeLine := Nat.le_of_ble_eq_true rfl
  have hne := seqP_ne hs
  have h5 := dI_len one
  walk_at "ev"
  refine lc_xi (xs := one) (f := .int) (fun t => waitBy lap other (t + change)) (go_name (by decide)) ?_
  walk_at "ev"
  refine ⟨fun x hx => ?_, ?_⟩
  · walk_at "ev"
    refine ⟨_, _, other, _, rfl, ⟨hs, hl, h3, h4⟩, ?_⟩
    walk_at "ev"
  · walk_at "ev"
    rw [h5]
    exact hP
abbrev S_change_wait : DS := fun ss O P => ∃ (lap : Int) (one other : List Int) (change : Int), ss = [.d (.int lap), .d (.tuple (dI one)), .d (.tuple (dI other)), .d (.int change)] ∧ (Good lap one ∧ Good lap other ∧ 0 ≤ change ∧ change ≤ 1440) ∧ P (.d (prD (changeP lap one other change))) O
theorem sc_change_wait : FnScope ["lap", "one", "other", "change"] ["lap", "one", "other", "change"] (defScope s_change_wait) := ⟨rfl, rfl, rfl, by decide +kernel, rfl, by decide +kernel, by decide +kernel⟩
theorem C_change_wait (B : Bas mg) (F : Fn K mg "change_wait" s_change_wait ["lap", "one", "other", "change"]) (C_change_by : Cal P w K mg base "change_by" S_change_by 3) (C_check_both : Cal P w K mg base "check_both" S_check_both 5) : Cal P w K mg base "change_wait" S_change_wait 6 := by
  refine Cal.mkF F sc_change_wait (by rintro ss O P ⟨lap, one, other, change, rfl, _⟩; rfl) fun f cdv A outer s H E hr => ?_
  have hu := hr.units
  refine ⟨_, (pss_cons (ps_expr (pe_cal C_check_both (hr.mono (by decide)) (by rfl) (pa_cons (pv 0) (pa_cons (pv 1) (pa_cons (pv 2) (pa_cons (pv 3) pa_nil))))))
 (pss_one (ps_ret (pe_cal C_change_by (hr.mono (by decide)) (by rfl) (pa_cons (pv 0) (pa_cons (pv 1) (pa_cons (pv 2) (pa_cons (pv 3) pa_nil)))))))), ?_⟩
  dsimp only [cxOf, Cx.nox]
  rintro ss O P ⟨lap, one, other, change, rfl, ⟨hg, hg2, hc1, hc2⟩, hP⟩
  change StW _ _ _ [_, _, _, _] _
  have h1 := hg.l1
  have h2 := hg.ne
  have h3 := hg.le
  have h4 := hg2.ne
  have h5 := hg2.le
  walk_at "ev"
  exact ⟨_, _, other, _, _, rfl, ⟨.inr rfl, by omega, by omega, by omega, by omega, by omega⟩, hP⟩
end
end
section
open PySem PySem.Spec PyProof.Rows L2 AL
section
variable {P : Program} {w : World} {K : PySem.W.Frag} {mg : Str → Option Value} {base : Heap}
def rowD (r : Int × List Int) : PyData := .tuple [.int r.1, .list (dI r.2)]
abbrev S_least_of : DS := fun ss O P => ∃ (lap : Int) (rows : List (Int × List Int)), ss = [.d (.int lap), .d (.list (rows.map rowD))] ∧ (1 ≤ lap ∧ lap ≤ 1440 ∧ 0 < rows.length ∧ (∀ r ∈ rows, 0 < r.2.length ∧ r.2.length ≤ 2000)) ∧
  ∀ r ∈ rows, (∀ q ∈ rows, ¬ ltP (meanP lap q.2) (meanP lap r.2)) → P (.d (.tuple [.int r.1, prD (meanP lap r.2)])) O
theorem sc_least_of : FnScope ["lap", "rows", "best", "minute", "times", "mean"] ["lap", "rows"] (defScope s_least_of) := ⟨rfl, rfl, rfl, by decide +kernel, rfl, by decide +kernel, by decide +kernel⟩
theorem C_least_of (B : Bas mg) (F : Fn K mg "least_of" s_least_of ["lap", "rows"]) (C_less : Cal P w K mg base "less" S_less 1) (C_mean_of : Cal P w K mg base "mean_of" S_mean_of 3) : Cal P w K mg base "least_of" S_least_of 4 := by
  refine Cal.mkF F sc_least_of (by rintro ss O P ⟨lap, rows, rfl, _⟩; rfl) fun f cdv A outer s H E hr => ?_
  have hu := hr.units
  refine ⟨_, (pss_cons (ps_set (i := 2) sc_least_of.nd rfl (.inl rfl) pe_non)
 (pss_cons (ps_for PassesOwn.never rfl (pi_seq (pv 1)) (pg_tup rfl (pgs_cons (pg_name (i := 3) sc_least_of.nd rfl (.inl rfl)) (pgs_cons (pg_name (i := 4) sc_least_of.nd rfl (.inl rfl)) pgs_nil))) (pss_cons (ps_set (i := 5) sc_least_of.nd rfl (.inl rfl) (pe_cal C_mean_of (hr.mono (by decide)) (by rfl) (pa_cons (pv 0) (pa_cons (pv 4) pa_nil))))
 (pss_one (ps_set (i := 2) sc_least_of.nd rfl (.inl rfl) (pe_ifExp (PW.pt (pw_or (pt_cmpR op_isN (pv 2) pe_non (nomark _)) (pw_or1 (pt_val (pe_cal C_less (hr.mono (by decide)) (by rfl) (pa_cons (pv 5) (pa_cons (pe_ix ix_seq (pv 2) pe_int (fun _ _ => rfl)) pa_nil))))))) (pe_tup (pa_cons (pv 3) (pa_cons (pv 5) pa_nil))) (pv 2))))))
 (pss_one (ps_ret (pv 2))))), ?_⟩
  dsimp only [cxOf, Cx.nox]
  rintro ss O P ⟨lap, rows, rfl, ⟨h1, h2, h3, h4⟩, hP⟩
  change StW _ _ _ [_, _, .u, .u, .u, .u] _
  walk_at "ev"
  refine st_for ?_
  walk_at "ev"
  refine ⟨fun i ρ O' => O' = O ∧ ∃ b x y z : Sl, ρ = [.d (.int lap), .d (.list (rows.map rowD)), b, x, y, z] ∧ ((i = 0 ∧ b = .d .none) ∨ ∃ r ∈ rows, b = .d (.tuple [.int r.1, prD (meanP lap r.2)]) ∧ ∀ q ∈ rows.take i, ¬ ltP (meanP lap q.2) (meanP lap r.2)), ⟨rfl, _, .u, .u, .u, rfl, .inl ⟨rfl, rfl⟩⟩, ?_, ?_⟩
  · rintro i d ρ O' hd ⟨rfl, b, x, y, z, rfl, hh⟩
    rw [List.getElem?_map] at hd
    cases er : rows[i]? with
    | none => rw [er] at hd; cases hd
    | some r =>
      rw [er] at hd
      have ed := Option.some.inj hd
      subst ed
      have hm := List.mem_of_getElem? er
      obtain ⟨h5, h6⟩ := h4 r hm
      have hden := meanP_den (lap := lap) r.2 h1 h2
      unfold rowD
      walk_at "ev"
      refine ⟨_, _, r.2, rfl, ⟨.inl rfl, by omega, by omega, by omega⟩, ?_⟩
      rcases hh with ⟨rfl, rfl⟩ | ⟨q, hq, rfl, hall⟩
      · walk_at "ev"
        refine .inr ⟨r, hm, rfl, fun q hq => ?_⟩
        rcases mem_take_succ er hq with z | z
        · cases z
        · rw [z]; exact ltP_irrefl _
      · have hden2 := meanP_den (lap := lap) q.2 h1 h2
        walk_at "ev"
        refine ⟨fun h => ?_, fun h => ?_⟩
        · have h := of_decide_eq_true h
          walk_at "ev"
          refine .inr ⟨r, hm, rfl, fun q2 hq2 => ?_⟩
          rcases mem_take_succ er hq2 with z | z
          · exact ltP_trans hden.1 hden2.1 (meanP_den q2.2 h1 h2).1 (hall q2 z) h
          · rw [z]; exact ltP_irrefl _
        · have h := of_decide_eq_false h
          walk_at "ev"
          refine .inr ⟨q, hq, rfl, fun q2 hq2 => ?_⟩
          rcases mem_take_succ er hq2 with z | z
          · exact hall q2 z
          · rw [z]; exact h
  · rintro ρ O' ⟨rfl, b, x, y, z, rfl, hh⟩
    rw [List.length_map, List.take_length] at hh
    rcases hh with ⟨h, _⟩ | ⟨q, hq, rfl, hall⟩
    · omega
    · walk_at "ev"
      exact hP q hq hall
abbrev S_one_more : DS := fun ss O P => ∃ (lap : Int) (ts : List Int), ss = [.d (.int lap), .d (.tuple (dI ts))] ∧ (Good lap ts ∧ 0 < (free lap ts).length) ∧
  ∀ m ∈ free lap ts, (∀ n ∈ free lap ts, ¬ ltP (meanP lap (sortI (ts ++ [n]))) (meanP lap (sortI (ts ++ [m])))) → P (.d (.tuple [.int m, prD (meanP lap (sortI (ts ++ [m])))])) O
theorem sc_one_more : FnScope ["lap", "times", "some", "minute"] ["lap", "times"] (defScope s_one_more) := ⟨rfl, rfl, rfl, by decide +kernel, rfl, by decide +kernel, by decide +kernel⟩
theorem C_one_more (B : Bas mg) (F : Fn K mg "one_more" s_one_more ["lap", "times"]) (C_check_times : Cal P w K mg base "check_times" S_check_times 4) (C_least_of : Cal P w K mg base "least_of" S_least_of 4) : Cal P w K mg base "one_more" S_one_more 5 := by
  refine Cal.mkF F sc_one_more (by rintro ss O P ⟨lap, ts, rfl, _⟩; rfl) fun f cdv A outer s H E hr => ?_
  have hu := hr.units
  refine ⟨_, (pss_cons (ps_expr (pe_cal C_check_times (hr.mono (by decide)) (by rfl) (pa_cons (pv 0) (pa_cons (pv 1) pa_nil))))
 (pss_cons (ps_setLc (i := 2) (own := [("minute", 3)]) (g := (gName 3)) (tt := (tTest (tOp (rIn K true) (tVar 3) (tVar 1)))) (te := (tVar 3)) rfl sc_one_more.nd rfl rfl (sw_true rfl rfl rfl (by decide +kernel)) (pi_range1 (by rfl) B.m_range (pa_cons (pv 0) pa_nil)) (blkOk_by (own := [("minute", 3)]) (N := ["lap", "times", "some", "minute"]) (by first | decide +kernel | kernel_rfl)) (fun _ _ _ _ _ => (pg_name (i := 3) sc_one_more.nd rfl (.inl rfl))) (fun _ _ _ _ _ => (pts_one (pt_cmpR op_notIn_seq (pv 3) (pv 1) (by rfl)))) (fun _ _ _ _ _ => (pv 3)))
 (pss_cons (ps_if (pt_cmpR (op_eqD hu) (pv 2) (pe_lst pa_nil) (nomark _)) pss_never pss_nil)
 (pss_one (ps_ret (pe_cal C_least_of (hr.mono (by decide)) (by rfl) (pa_cons (pv 0) (pa_cons (pe_lc (own := [("minute", 3)]) (g := (gName 3)) (tt := tYes) (te := (tTup (tCons (tVar 3) (tCons (tCB (rOf K sSorted) (tCons (tLst (StX.tStar K (tVar 1) (tCons (tVar 3) tNil))) tNil)) tNil)))) rfl sc_one_more.nd (pi_seq (pv 2)) (blkOk_by (own := [("minute", 3)]) (N := ["lap", "times", "some", "minute"]) (by first | decide +kernel | kernel_rfl)) (fun _ _ _ _ _ => (pg_name (i := 3) sc_one_more.nd rfl (.inl rfl))) (fun _ _ _ _ _ => pts_nil) (fun _ _ _ _ _ => (pe_tup (pa_cons (pv 3) (pa_cons (pe_callB cl_sorted (by rfl) B.m_sorted (by decide +kernel) (pa_cons (pe_lst (StX.pa_star (pv 1) (pa_cons (pv 3) pa_nil))) pa_nil)) pa_nil))))) pa_nil)))))))), ?_⟩
  dsimp only [cxOf, Cx.nox]
  rintro ss O P ⟨lap, ts, rfl, ⟨hg, hf⟩, hP⟩
  change StW _ _ _ [_, _, .u, .u] _
  have h1 := hg.l1
  have h2 := hg.l2
  have h3 := hg.ne
  have h4 := hg.le
  have hz : (4000 : Nat) ≤ sizeLine := Nat.le_of_ble_eq_true rfl
  have hrl := rng_len lap.toNat
  walk_at "ev"
  refine lc_xf (xs := rng lap.toNat) (f := .int) (fun m => !decide (m ∈ ts)) (fun m => m) (go_name (by decide)) ?_
  walk_at "ev"
  rw [rgD_dI, List.map_id']
  refine ⟨rfl, rfl, by omega, fun x hx => ?_, ?_⟩
  · walk_at "ev"
    intro _
    walk_at "ev"
  · walk_at "ev"
    have hne : (PyData.list (dI (free lap ts))).eqv (PyData.list []) = false := by
      cases e : free lap ts with
      | nil => rw [e] at hf; cases hf
      | cons x xs => rfl
    have hfl : (free lap ts).length ≤ lap.toNat := by
      have h := List.length_filter_le (fun m => !decide (m ∈ ts)) (rng lap.toNat)
      rw [hrl] at h
      exact h
    refine ⟨fun h => ?_, fun _ => ?_⟩
    · rw [show (PyData.list (dI (List.filter (fun m => !decide (m ∈ ts)) (rng lap.toNat)))).eqv (PyData.list []) = false from hne] at h
      cases h
    · walk_at "ev"
      refine lc_map (xs := free lap ts) (f := .int) (fun m => rowD (m, sortI (ts ++ [m]))) (go_name (by decide)) ?_
      walk_at "ev"
      refine ⟨fun x hx => ?_, ?_⟩
      · walk_at "ev"
        refine ⟨dI (ts ++ [x]), by rw [← dI_snoc, List.map_append]; rfl, by rw [dI_len, List.length_append]; simp; omega, ?_⟩
        walk_at "ev"
        intro ns h5 h6
        rw [sortI_eq h5 h6]
        walk_at "ev"
      · walk_at "ev"
        have erows : ((free lap ts).map fun m => rowD (m, sortI (ts ++ [m]))) = ((free lap ts).map fun m => (m, sortI (ts ++ [m]))).map rowD := by
          rw [List.map_map]
          exact List.map_congr_left fun _ _ => rfl
        rw [erows]
        refine ⟨_, (free lap ts).map (fun m => (m, sortI (ts ++ [m]))), rfl, ⟨h1, h2, by rw [List.length_map]; exact hf, fun r hr => ?_⟩, fun r hr hall => ?_⟩
        · obtain ⟨m, hm, rfl⟩ := List.mem_map.mp hr
          have e := (sortI_perm (ts ++ [m])).length_eq
          rw [List.length_append] at e
          simp at e
          show 0 < (sortI (ts ++ [m])).length ∧ (sortI (ts ++ [m])).length ≤ 2000
          omega
        · obtain ⟨m, hm, rfl⟩ := List.mem_map.mp hr
          exact hP m hm fun n hn => hall (n, sortI (ts ++ [n])) (List.mem_map.mpr ⟨n, hn, rfl⟩)
abbrev S_least_shift : DS := fun ss O P => ∃ (means : List (Int × Int)), ss = [.d (.list (means.map prD))] ∧ (0 < means.length ∧ ∀ q ∈ means, 0 < q.2 ∧ q.2 < 2 ^ 60) ∧
  ∀ j m, Least means j m → P (.d (.tuple [.int (j : Nat), prD m])) O
theorem sc_least_shift : FnScope ["means", "best", "shift", "mean"] ["means"] (defScope s_least_shift) := ⟨rfl, rfl, rfl, by decide +kernel, rfl, by decide +kernel, by decide +kernel⟩
theorem C_least_shift (B : Bas mg) (F : Fn K mg "least_shift" s_least_shift ["means"]) (C_less : Cal P w K mg base "less" S_less 1) : Cal P w K mg base "least_shift" S_least_shift 2 := by
  refine Cal.mkF F sc_least_shift (by rintro ss O P ⟨means, rfl, _⟩; rfl) fun f cdv A outer s H E hr => ?_
  have hu := hr.units
  refine ⟨_, (pss_cons (ps_set (i := 1) sc_least_shift.nd rfl (.inl rfl) (pe_tup (pa_cons pe_int (pa_cons (pe_ix ix_seq (pv 0) pe_int (fun _ _ => rfl)) pa_nil))))
 (pss_cons (ps_for PassesOwn.never rfl (pi_enumU (by rfl) B.m_enumerate (pa_cons (pv 0) pa_nil)) (pg_tup rfl (pgs_cons (pg_name (i := 2) sc_least_shift.nd rfl (.inl rfl)) (pgs_cons (pg_name (i := 3) sc_least_shift.nd rfl (.inl rfl)) pgs_nil))) (pss_one (ps_set (i := 1) sc_least_shift.nd rfl (.inl rfl) (pe_ifExp (pt_val (pe_cal C_less (hr.mono (by decide)) (by rfl) (pa_cons (pv 3) (pa_cons (pe_ix ix_seq (pv 1) pe_int (fun _ _ => rfl)) pa_nil)))) (pe_tup (pa_cons (pv 2) (pa_cons (pv 3) pa_nil))) (pv 1)))))
 (pss_one (ps_ret (pv 1))))), ?_⟩
  dsimp only [cxOf, Cx.nox]
  rintro ss O P ⟨means, rfl, ⟨h1, h2⟩, hP⟩
  change StW _ _ _ [_, .u, .u, .u] _
  obtain ⟨m0, hm0⟩ : ∃ m0, means[0]? = some m0 := ⟨means[0], List.getElem?_eq_getElem h1⟩
  have hat : atI (means.map prD) 0 = some (prD m0) := by
    unfold atI
    have e : ixN (means.map prD).length 0 = some 0 := by
      unfold ixN
      rw [List.length_map, if_pos (by omega), if_pos (by omega)]
      rfl
    rw [e]
    show (means.map prD)[0]? = _
    rw [List.getElem?_map, hm0]
    rfl
  walk_at "ev"
  refine ⟨_, _, _, .l, rfl, hat, ?_⟩
  walk_at "ev"
  refine st_for ?_
  walk_at "ev"
  refine ⟨fun i ρ O' => O' = O ∧ ∃ (j : Nat) (m : Int × Int) (x y : Sl), ρ = [.d (.list (means.map prD)), .d (.tuple [.int (j : Nat), prD m]), x, y] ∧ means[j]? = some m ∧ (∀ q ∈ means.take i, ¬ ltP q m) ∧ (∀ i' : Nat, i' < j → ∀ q, means[i']? = some q → ltP m q), ⟨rfl, 0, m0, .u, .u, rfl, hm0, (fun q hq => by cases hq), fun i' hi' => absurd hi' (Nat.not_lt_zero _)⟩, ?_, ?_⟩
  · rintro i d ρ O' hd ⟨rfl, j, m, x, y, rfl, hj, hall, hf⟩
    obtain ⟨c, hc, rfl⟩ := enum_getP hd
    have b1 := h2 c (List.mem_of_getElem? hc)
    have b2 := h2 m (List.mem_of_getElem? hj)
    walk_at "ev"
    refine ⟨fun h => ?_, fun h => ?_⟩
    · have h := of_decide_eq_true h
      walk_at "ev"
      refine ⟨fun q hq => ?_, fun i' hi' q hq => ?_⟩
      · rcases mem_take_succ hc hq with z | z
        · exact ltP_trans b1.1 b2.1 (h2 q (List.mem_of_mem_take z)).1 (hall q z) h
        · rw [z]; exact ltP_irrefl _
      · have hm : q ∈ means.take i := List.mem_of_getElem? (i := i') (by rw [List.getElem?_take_of_lt hi']; exact hq)
        exact ltP_le b1.1 b2.1 (h2 q (List.mem_of_getElem? hq)).1 h (hall q hm)
    · have h := of_decide_eq_false h
      walk_at "ev"
      refine ⟨fun q hq => ?_, hf⟩
      rcases mem_take_succ hc hq with z | z
      · exact hall q z
      · rw [z]; exact h
  · rintro ρ O' ⟨rfl, j, m, x, y, rfl, hj, hall, hf⟩
    rw [List.length_map, List.length_zipIdx, List.length_map, List.take_length] at hall
    walk_at "ev"
    exact hP j m ⟨hj, hall, hf⟩
abbrev S_best_shift : DS := fun ss O P => ∃ (lap : Int) (one other : List Int) (change : Int), ss = [.d (.int lap), .d (.tuple (dI one)), .d (.tuple (dI other)), .d (.int change)] ∧ (Good lap one ∧ Good lap other ∧ 0 ≤ change ∧ change ≤ 1440) ∧
  ∀ j m, Least (shiftMeans lap one other change) j m → P (.d (.tuple [.int (j : Nat), prD m])) O
theorem sc_best_shift : FnScope ["lap", "one", "other", "change", "shift"] ["lap", "one", "other", "change"] (defScope s_best_shift) := ⟨rfl, rfl, rfl, by decide +kernel, rfl, by decide +kernel, by decide +kernel⟩
theorem C_best_shift (B : Bas mg) (F : Fn K mg "best_shift" s_best_shift ["lap", "one", "other", "change"]) (C_change_by : Cal P w K mg base "change_by" S_change_by 3) (C_check_both : Cal P w K mg base "check_both" S_check_both 5) (C_least_shift : Cal P w K mg base "least_shift" S_least_shift 2) (C_put_later : Cal P w K mg base "put_later" S_put_later 1) : Cal P w K mg base "best_shift" S_best_shift 6 := by
  refine Cal.mkF F sc_best_shift (by rintro ss O P ⟨lap, one, other, change, rfl, _⟩; rfl) fun f cdv A outer s H E hr => ?_
  have hu := hr.units
  refine ⟨_, (pss_cons (ps_expr (pe_cal C_check_both (hr.mono (by decide)) (by rfl) (pa_cons (pv 0) (pa_cons (pv 1) (pa_cons (pv 2) (pa_cons (pv 3) pa_nil))))))
 (pss_one (ps_ret (pe_cal C_least_shift (hr.mono (by decide)) (by rfl) (pa_cons (pe_lc (own := [("shift", 4)]) (g := (gName 4)) (tt := tYes) (te := (tCall (spA K S_change_by) [] E0 (tCons (tVar 0) (tCons (tVar 1) (tCons (tCall (spA K S_put_later) [] E0 (tCons (tVar 0) (tCons (tVar 2) (tCons (tVar 4) tNil)))) (tCons (tVar 3) tNil)))))) rfl sc_best_shift.nd (pi_range1 (by rfl) B.m_range (pa_cons (pv 0) pa_nil)) (blkOk_by (own := [("shift", 4)]) (N := ["lap", "one", "other", "change", "shift"]) (by first | decide +kernel | kernel_rfl)) (fun _ _ _ _ _ => (pg_name (i := 4) sc_best_shift.nd rfl (.inl rfl))) (fun _ _ _ _ _ => pts_nil) (fun _ _ _ _ _ => (pe_cal C_change_by (hr.mono (by decide)) (by rfl) (pa_cons (pv 0) (pa_cons (pv 1) (pa_cons (pe_cal C_put_later (hr.mono (by decide)) (by rfl) (pa_cons (pv 0) (pa_cons (pv 2) (pa_cons (pv 4) pa_nil)))) (pa_cons (pv 3) pa_nil))))))) pa_nil))))), ?_⟩
  dsimp only [cxOf, Cx.nox]
  rintro ss O P ⟨lap, one, other, change, rfl, ⟨hg, hg2, hc1, hc2⟩, hP⟩
  change StW _ _ _ [_, _, _, _, .u] _
  have h1 := hg.l1
  have h1' := hg.l2
  have h2 := hg.ne
  have h3 := hg.le
  have h4 := hg2.ne
  have h5 := hg2.le
  have hz : (4000 : Nat) ≤ sizeLine := Nat.le_of_ble_eq_true rfl
  have hrl := rng_len lap.toNat
  walk_at "ev"
  refine lc_map (xs := rng lap.toNat) (f := .int) (fun s => prD (changeP lap one (later lap other s) change)) (go_name (by decide)) ?_
  walk_at "ev"
  rw [rgD_dI]
  refine ⟨rfl, rfl, by omega, fun x hx => ?_, ?_⟩
  · walk_at "ev"
    have hll := later_len lap other x
    refine ⟨_, _, later lap other x, _, _, rfl, ⟨.inl rfl, by omega, by omega, by omega, by omega, by omega⟩, ?_⟩
    walk_at "ev"
  · walk_at "ev"
    have erows : ((rng lap.toNat).map fun s => prD (changeP lap one (later lap other s) change)) = (shiftMeans lap one other change).map prD := by
      unfold shiftMeans
      rw [List.map_map]
      exact List.map_congr_left fun _ _ => rfl
    rw [erows]
    refine ⟨shiftMeans lap one other change, rfl, ⟨by unfold shiftMeans; rw [List.length_map]; omega, fun q hq => ?_⟩, hP⟩
    obtain ⟨x, hx, rfl⟩ := List.mem_map.mp hq
    have hden := fr_den (a := (one.map fun t => waitBy lap (later lap other x) (t + change)).sum) (b := one.length) (by omega)
    unfold changeP
    omega
abbrev S_together : DS := fun ss O P => ∃ (lap : Int) (one other : List Int), ss = [.d (.int lap), .d (.tuple (dI one)), .d (.tuple (dI other))] ∧ (Good lap one ∧ Good lap other ∧ one.length ≤ 8 ∧ other.length ≤ 8) ∧
  ∀ j m, Least (joinMeans lap one other) j m → P (.d (.tuple [.int (j : Nat), prD m])) O
theorem sc_together : FnScope ["lap", "one", "other", "means", "shift"] ["lap", "one", "other"] (defScope s_together) := ⟨rfl, rfl, rfl, by decide +kernel, rfl, by decide +kernel, by decide +kernel⟩
theorem C_together (B : Bas mg) (F : Fn K mg "together" s_together ["lap", "one", "other"]) (C_check_both : Cal P w K mg base "check_both" S_check_both 5) (C_least_shift : Cal P w K mg base "least_shift" S_least_shift 2) (C_mean_of : Cal P w K mg base "mean_of" S_mean_of 3) (C_put_later : Cal P w K mg base "put_later" S_put_later 1) : Cal P w K mg base "together" S_together 6 := by
  refine Cal.mkF F sc_together (by rintro ss O P ⟨lap, one, other, rfl, _⟩; rfl) fun f cdv A outer s H E hr => ?_
  have hu := hr.units
  refine ⟨_, (pss_cons (ps_expr (pe_cal C_check_both (hr.mono (by decide)) (by rfl) (pa_cons (pv 0) (pa_cons (pv 1) (pa_cons (pv 2) (pa_cons pe_int pa_nil))))))
 (pss_cons (ps_setLc (i := 3) (own := [("shift", 4)]) (g := (gName 4)) (tt := tYes) (te := (tCall (spA K S_mean_of) [] E0 (tCons (tVar 0) (tCons (tCB (rSortedSet w) (tCons (tCB (rSetI K w) (tCons (tLst (StX.tStar K (tVar 1) (StX.tStar K (tCall (spA K S_put_later) [] E0 (tCons (tVar 0) (tCons (tVar 2) (tCons (tVar 4) tNil)))) tNil))) tNil)) tNil)) tNil)))) rfl sc_together.nd rfl rfl (sw_true rfl rfl rfl (by decide +kernel)) (pi_range1 (by rfl) B.m_range (pa_cons (pv 0) pa_nil)) (blkOk_by (own := [("shift", 4)]) (N := ["lap", "one", "other", "means", "shift"]) (by first | decide +kernel | kernel_rfl)) (fun _ _ _ _ _ => (pg_name (i := 4) sc_together.nd rfl (.inl rfl))) (fun _ _ _ _ _ => pts_nil) (fun _ _ _ _ _ => (pe_cal C_mean_of (hr.mono (by decide)) (by rfl) (pa_cons (pv 0) (pa_cons (pe_callB (cr_sortedSet rfl) (by rfl) B.m_sorted (by decide +kernel) (pa_cons (pe_callTy (cl_setI rfl) (by rfl) B.m_set (by decide +kernel) (pa_cons (pe_lst (StX.pa_star (pv 1) (StX.pa_star (pe_cal C_put_later (hr.mono (by decide)) (by rfl) (pa_cons (pv 0) (pa_cons (pv 2) (pa_cons (pv 4) pa_nil)))) pa_nil))) pa_nil)) pa_nil)) pa_nil)))))
 (pss_one (ps_ret (pe_cal C_least_shift (hr.mono (by decide)) (by rfl) (pa_cons (pv 3) pa_nil)))))), ?_⟩
  dsimp only [cxOf, Cx.nox]
  rintro ss O P ⟨lap, one, other, rfl, ⟨hg, hg2, hc1, hc2⟩, hP⟩
  change StW _ _ _ [_, _, _, .u, .u] _
  have h1 := hg.l1
  have h1' := hg.l2
  have h2 := hg.ne
  have h3 := hg.le
  have h4 := hg2.ne
  have h5 := hg2.le
  have hz : (4000 : Nat) ≤ sizeLine := Nat.le_of_ble_eq_true rfl
  have hrl := rng_len lap.toNat
  walk_at "ev"
  refine lc_map (xs := rng lap.toNat) (f := .int) (fun s => prD (meanP lap (uni lap (one ++ later lap other s)))) (go_name (by decide)) ?_
  walk_at "ev"
  rw [rgD_dI]
  refine ⟨rfl, rfl, by omega, fun x hx => ?_, ?_⟩
  · have hll := later_len lap other x
    walk_at "ev"
    refine ⟨dI (one ++ later lap other x), by rw [← dI_app, List.map_append, List.append_nil], by rw [dI_len, List.length_append]; omega, ?_⟩
    walk_at "ev"
    refine ⟨by rw [List.length_append]; omega, fun ns h6 h7 => ?_⟩
    have hrg : ∀ t ∈ one ++ later lap other x, 0 ≤ t ∧ t < lap := by
      intro t ht
      rcases List.mem_append.mp ht with z | z
      · exact hg.rg t z
      · exact later_rg (by omega) other x t z
    rw [uni_eq hrg h7 h6]
    have hul := uni_len lap (one ++ later lap other x)
    have hun : 0 < (uni lap (one ++ later lap other x)).length := by
      have hm : one[0] ∈ uni lap (one ++ later lap other x) := (uni_mem hrg _).mpr (List.mem_append_left _ (List.getElem_mem h2))
      exact List.length_pos_of_mem hm
    walk_at "ev"
    refine ⟨_, _, uni lap (one ++ later lap other x), rfl, ⟨.inl rfl, by omega, by omega, by omega⟩, ?_⟩
    walk_at "ev"
  · walk_at "ev"
    have erows : ((rng lap.toNat).map fun s => prD (meanP lap (uni lap (one ++ later lap other s)))) = (joinMeans lap one other).map prD := by
      unfold joinMeans
      rw [List.map_map]
      exact List.map_congr_left fun _ _ => rfl
    rw [erows]
    refine ⟨joinMeans lap one other, rfl, ⟨by unfold joinMeans; rw [List.length_map]; omega, fun q hq => ?_⟩, hP⟩
    obtain ⟨x, hx, rfl⟩ := List.mem_map.mp hq
    have hden := meanP_den (lap := lap) (uni lap (one ++ later lap other x)) h1 h1'
    omega
end
end
section
open PySem PySem.Spec PyProof.Rows L2 AL
section
variable {P : Program} {w : World} {K : PySem.W.Frag} {mg : Str → Option Value} {base : Heap}
abbrev S_one_less : DS := fun ss O P => ∃ (lap : Int) (ts : List Int), ss = [.d (.int lap), .d (.tuple (dI ts))] ∧ (Good lap ts ∧ 1 < ts.length) ∧
  ∀ t ∈ ts, (∀ n ∈ ts, ¬ ltP (meanP lap (without ts n)) (meanP lap (without ts t))) → P (.d (.tuple [.int t, prD (meanP lap (without ts t))])) O
theorem sc_one_less : FnScope ["lap", "times", "time", "other"] ["lap", "times"] (defScope s_one_less) := ⟨rfl, rfl, rfl, by decide +kernel, rfl, by decide +kernel, by decide +kernel⟩
theorem C_one_less (B : Bas mg) (F : Fn K mg "one_less" s_one_less ["lap", "times"]) (C_check_times : Cal P w K mg base "check_times" S_check_times 4) (C_least_of : Cal P w K mg base "least_of" S_least_of 4) : Cal P w K mg base "one_less" S_one_less 5 := by
  refine Cal.mkF F sc_one_less (by rintro ss O P ⟨lap, ts, rfl, _⟩; rfl) fun f cdv A outer s H E hr => ?_
  have hu := hr.units
  refine ⟨_, (pss_cons (ps_expr (pe_cal C_check_times (hr.mono (by decide)) (by rfl) (pa_cons (pv 0) (pa_cons (pv 1) pa_nil))))
 (pss_cons (ps_if (pt_cmpR (op_eqD hu) (pe_callB cl_len (by rfl) B.m_len (by decide +kernel) (pa_cons (pv 1) pa_nil)) pe_int (nomark _)) pss_never pss_nil)
 (pss_one (ps_ret (pe_cal C_least_of (hr.mono (by decide)) (by rfl) (pa_cons (pv 0) (pa_cons (pe_lc (own := [("time", 2)]) (g := (gName 2)) (tt := tYes) (te := (tTup (tCons (tVar 2) (tCons (tLc (iSeq K (tVar 1)) (gName 3) (tTest (tOp (rNeD K) (tVar 3) (tVar 2))) (tVar 3) [3]) tNil)))) rfl sc_one_less.nd (pi_seq (pv 1)) (blkOk_by (own := [("time", 2)]) (N := ["lap", "times", "time", "other"]) (by first | decide +kernel | kernel_rfl)) (fun _ _ _ _ _ => (pg_name (i := 2) sc_one_less.nd rfl (.inr rfl))) (fun _ _ _ _ _ => pts_nil) (fun _ _ _ _ _ => (pe_tup (pa_cons (pv 2) (pa_cons (pe_lc (own := [("other", 3)]) (g := (gName 3)) (tt := (tTest (tOp (rNeD K) (tVar 3) (tVar 2)))) (te := (tVar 3)) rfl sc_one_less.nd (pi_seq (pv 1)) (blkOk_by (own := [("other", 3)]) (N := ["lap", "times", "time", "other"]) (by first | decide +kernel | kernel_rfl)) (fun _ _ _ _ _ => (pg_name (i := 3) sc_one_less.nd rfl (.inl rfl))) (fun _ _ _ _ _ => (pts_one (pt_cmpR (op_neD hu) (pv 3) (pv 2) (nomark _)))) (fun _ _ _ _ _ => (pv 3))) pa_nil))))) pa_nil))))))), ?_⟩
  try dsimp only [cxOf, Cx.nox]
  rintro ss O P ⟨lap, ts, rfl, ⟨hg, hf⟩, hP⟩
  change StW _ _ _ [_, _, .u, .u] _
  have h1 := hg.l1
  have h2 := hg.l2
  have h3 := hg.ne
  have h4 := hg.le
  have hz : (4000 : Nat) ≤ sizeLine := Nat.le_of_ble_eq_true rfl
  have h5 := dI_len ts
  have hwl : ∀ t, (without ts t).length ≤ ts.length := fun t => List.length_filter_le _ _
  have hwp : ∀ t, 0 < (without ts t).length := fun t => by
    have hnd : ts.Nodup := hg.asc.imp (fun h e => by omega)
    rcases Nat.eq_zero_or_pos (without ts t).length with z | z
    · exfalso
      have z := List.eq_nil_of_length_eq_zero z
      have hall : ∀ x ∈ ts, x = t := fun x hx => by
        by_cases e : x = t
        · exact e
        · have : x ∈ without ts t := List.mem_filter.mpr ⟨hx, by simp [e]⟩
          rw [z] at this; cases this
      have e0 := hall ts[0] (List.getElem_mem _)
      have e1 := hall ts[1] (List.getElem_mem _)
      have := (List.getElem_inj (i := 0) (j := 1) (h₀ := by omega) (h₁ := hf) hnd).mp (e0.trans e1.symm)
      omega
    · exact z
  walk_at "ev"
  refine lc_map (xs := ts) (f := .int) (fun t => rowD (t, without ts t)) (go_name (by decide)) ?_
  walk_at "ev"
  refine ⟨fun x hx => ?_, ?_⟩
  · walk_at "ev"
    refine lc_xf (xs := ts) (f := .int) (fun o => !decide (o = x)) (fun o => o) (go_name (by decide)) ?_
    walk_at "ev"
    refine ⟨fun y hy => ?_, ?_⟩
    · walk_at "ev"
      intro _
      walk_at "ev"
    · walk_at "ev"
      rw [List.map_id']
      exact ⟨rfl, rfl⟩
  · walk_at "ev"
    have erows : (ts.map fun t => rowD (t, without ts t)) = (ts.map fun t => (t, without ts t)).map rowD := by
      rw [List.map_map]
      exact List.map_congr_left fun _ _ => rfl
    rw [erows]
    refine ⟨_, ts.map (fun t => (t, without ts t)), rfl, ⟨h1, h2, by rw [List.length_map]; exact h3, fun r hr => ?_⟩, fun r hr hall => ?_⟩
    · obtain ⟨t, ht, rfl⟩ := List.mem_map.mp hr
      have := hwl t
      have := hwp t
      show 0 < (without ts t).length ∧ (without ts t).length ≤ 2000
      omega
    · obtain ⟨t, ht, rfl⟩ := List.mem_map.mp hr
      exact hP t ht fun n hn => hall (n, without ts n) (List.mem_map.mpr ⟨n, hn, rfl⟩)
abbrev S_put_each : DS := fun ss O P => ∃ (lap : Int) (ts ls : List Int), ss = [.d (.int lap), .d (.tuple (dI ts)), .d (.tuple (dI ls))] ∧ (0 < lap ∧ ts.length ≤ 2000) ∧ P (.d (.list (dI (putT lap ts ls)))) O
theorem sc_put_each : FnScope ["lap", "times", "lates", "time", "late"] ["lap", "times", "lates"] (defScope s_put_each) := ⟨rfl, rfl, rfl, by decide +kernel, rfl, by decide +kernel, by decide +kernel⟩
theorem C_put_each (B : Bas mg) (F : Fn K mg "put_each" s_put_each ["lap", "times", "lates"])  : Cal P w K mg base "put_each" S_put_each 1 := by
  refine Cal.mkF F sc_put_each (by rintro ss O P ⟨lap, ts, ls, rfl, _⟩; rfl) fun f cdv A outer s H E hr => ?_
  have hu := hr.units
  refine ⟨_, (pss_one (ps_ret (pe_callB cl_sorted (by rfl) B.m_sorted (by decide +kernel) (pa_cons (pe_lc (own := [("time", 3), ("late", 4)]) (g := (gTup K 2 (gCons (gName 3) (gCons (gName 4) gNil)))) (tt := tYes) (te := (tOp (rI (fun _ j => 0 < j) fun i j => .int (i % j)) (tOp (rI0 fun i j => .int (i + j)) (tVar 3) (tVar 4)) (tVar 0))) rfl sc_put_each.nd (pi_zipU (by rfl) B.m_zip (pa_cons (pv 1) (pa_cons (pv 2) pa_nil))) (blkOk_by (own := [("time", 3), ("late", 4)]) (N := ["lap", "times", "lates", "time", "late"]) (by first | decide +kernel | kernel_rfl)) (fun _ _ _ _ _ => (pg_tup rfl (pgs_cons (pg_name (i := 3) sc_put_each.nd rfl (.inl rfl)) (pgs_cons (pg_name (i := 4) sc_put_each.nd rfl (.inl rfl)) pgs_nil)))) (fun _ _ _ _ _ => pts_nil) (fun _ _ _ _ _ => (pe_op op_mod (pe_op op_add (pv 3) (pv 4)) (pv 0)))) pa_nil)))), ?_⟩
  try dsimp only [cxOf, Cx.nox]
  rintro ss O P ⟨lap, ts, ls, rfl, ⟨hl, h1⟩, hP⟩
  change StW _ _ _ [_, _, _, .u, .u] _
  have hz : (4000 : Nat) ≤ sizeLine := Nat.le_of_ble_eq_true rfl
  walk_at "ev"
  refine lc_xi (xs := ts.zip ls) (f := fun p => .tuple [.int p.1, .int p.2]) (fun p => (p.1 + p.2) % lap) (go_tup (gso_cons gm_name (go_name (by decide)) (gso_cons gm_name (go_name (by decide)) gso_nil))) ?_
  walk_at "ev"
  rw [zip_dI]
  refine ⟨rfl, rfl, by rw [List.length_zip]; omega, fun x hx => ?_, ?_⟩
  · walk_at "ev"
  · walk_at "ev"
    intro ns h5 h6
    rw [sortI_eq h5 h6]
    exact hP
abbrev S_cost_of : DS := fun ss O P => ∃ (g : Int), ss = [.d (.int g)] ∧ (-(2 ^ 40) ≤ g ∧ g ≤ 2 ^ 40) ∧ P (.d (.int (g * (g - 1)))) O
theorem sc_cost_of : FnScope ["gap"] ["gap"] (defScope s_cost_of) := ⟨rfl, rfl, rfl, by decide +kernel, rfl, by decide +kernel, by decide +kernel⟩
theorem C_cost_of (B : Bas mg) (F : Fn K mg "cost_of" s_cost_of ["gap"])  : Cal P w K mg base "cost_of" S_cost_of 1 := by
  refine Cal.mkF F sc_cost_of (by rintro ss O P ⟨g, rfl, _⟩; rfl) fun f cdv A outer s H E hr => ?_
  have hu := hr.units
  refine ⟨_, (pss_one (ps_ret (pe_op op_mul (pv 0) (pe_op op_sub (pv 0) pe_int)))), ?_⟩
  try dsimp only [cxOf, Cx.nox]
  rintro ss O P ⟨g, rfl, ⟨h1, h2⟩, hP⟩
  change StW _ _ _ [_] _
  walk_at "ev"
  exact hP
abbrev S_check_late : DS := fun ss O P => ∃ (lap : Int) (ts : List Int) (late : Int), ss = [.d (.int lap), .d (.tuple (dI ts)), .d (.int late)] ∧ (Good lap ts ∧ 0 ≤ late ∧ late ≤ 12 ∧ (1 < ts.length → late < minI (gaps lap ts))) ∧ P (.d .none) O
theorem sc_check_late : FnScope ["lap", "times", "late"] ["lap", "times", "late"] (defScope s_check_late) := ⟨rfl, rfl, rfl, by decide +kernel, rfl, by decide +kernel, by decide +kernel⟩
theorem C_check_late (B : Bas mg) (F : Fn K mg "check_late" s_check_late ["lap", "times", "late"]) (C_check_times : Cal P w K mg base "check_times" S_check_times 4) (C_gaps_of : Cal P w K mg base "gaps_of" S_gaps_of 1) (C_is_between : Cal P w K mg base "is_between" S_is_between 2) : Cal P w K mg base "check_late" S_check_late 5 := by
  refine Cal.mkF F sc_check_late (by rintro ss O P ⟨lap, ts, late, rfl, _⟩; rfl) fun f cdv A outer s H E hr => ?_
  have hu := hr.units
  refine ⟨_, (pss_cons (ps_expr (pe_cal C_check_times (hr.mono (by decide)) (by rfl) (pa_cons (pv 0) (pa_cons (pv 1) pa_nil))))
 (pss_one (ps_if (PW.pt (pw_or (pt_not (pt_val (pe_cal C_is_between (hr.mono (by decide)) (by rfl) (pa_cons (pv 2) (pa_cons pe_int (pa_cons (pe_gint (by rfl) B.c_MOST_LATE) pa_nil)))))) (pw_or1 (PW.pt (pw_and (pt_cmpR op_gt (pe_callB cl_len (by rfl) B.m_len (by decide +kernel) (pa_cons (pv 1) pa_nil)) pe_int (nomark _)) (pw_and1 (pt_cmpR op_ge (pv 2) (pe_callB (cl_minL rfl) (by rfl) B.m_min (by decide +kernel) (pa_cons (pe_cal C_gaps_of (hr.mono (by decide)) (by rfl) (pa_cons (pv 0) (pa_cons (pv 1) pa_nil))) pa_nil)) (nomark _)))))))) pss_never pss_nil))), ?_⟩
  try dsimp only [cxOf, Cx.nox]
  rintro ss O P ⟨lap, ts, late, rfl, ⟨hg, h1, h2, h3⟩, hP⟩
  change StW _ _ _ [_, _, _] _
  have h4 := hg.l1
  have h5 := hg.l2
  have h6 := hg.ne
  have h7 := hg.le
  have h8 := dI_len ts
  have hgl := gaps_len lap ts h6
  walk_at "ev"
  refine ⟨fun h => ?_, fun h => ?_⟩
  · have h := of_decide_eq_true h
    walk_at "ev"
    refine ⟨_, _, ts, rfl, ⟨.inr rfl, by omega, by omega, by omega⟩, ?_⟩
    walk_at "ev"
    intro m hm1 hm2
    rw [minI_eq hm1 hm2]
    have h9 := h3 (by omega)
    walk_at "ev"
    exact hP
  · walk_at "ev"
    exact hP
end
end
section
open PySem PySem.Spec PyProof.Rows L2 AL PySem.W
section
variable {P : Program} {w : World} {K : PySem.W.Frag} {mg : Str → Option Value} {base : Heap}
theorem cut_last (ds : List PyData) : AL.cutD ds none (some (-1)) = ds.dropLast := by
  unfold AL.cutD
  show (ds.drop 0).take ((if (-1 : Int) < 0 then ((-1 : Int) + ds.length).toNat else min (-1 : Int).toNat ds.length) - 0) = _
  rw [if_pos (by omega), List.drop_zero, Nat.sub_zero, List.dropLast_eq_take]
  congr 1
  omega
theorem dI_dropLast (ns : List Int) : (dI ns).dropLast = dI ns.dropLast := by
  rw [List.dropLast_eq_take, dI_take, dI_len, ← List.dropLast_eq_take]
theorem at_last {ns : List Int} (h : ns ≠ []) : L2.atI (AL.dI ns) (-1) = some (.int (ns.getLast h)) := by
  unfold L2.atI
  have hp : 0 < ns.length := by cases ns with | nil => exact absurd rfl h | cons x xs => exact Nat.succ_pos _
  have e : L2.ixN (AL.dI ns).length (-1) = some (ns.length - 1) := by
    unfold L2.ixN
    rw [dI_len, if_neg (by omega), if_pos (by omega)]
    congr 1
    omega
  rw [e]
  show (AL.dI ns)[ns.length - 1]? = _
  rw [List.getElem?_map, List.getLast_eq_getElem, List.getElem?_eq_getElem (by omega)]
  rfl
theorem lastD_mem : ∀ (ts : List Int) (s : Int), lastD s ts = s ∨ lastD s ts ∈ ts
  | [], s => .inl rfl
  | t :: ts, s => by
    rcases lastD_mem ts t with h | h
    · exact .inr (by show lastD t ts ∈ t :: ts; rw [h]; exact List.mem_cons_self)
    · exact .inr (List.mem_cons_of_mem _ h)
theorem way_last {choices : List Int} {sign first : Int} {gs : List Int} {e : Rw} (h : WayTo choices sign first gs e) (hf : first ∈ choices) : e.1 ∈ choices := by
  obtain ⟨rest, _, _, q3, q4, _⟩ := h.ex
  rw [← q4]
  rcases lastD_mem rest first with z | z
  · rw [z]; exact hf
  · exact q3 _ z
theorem way_len {choices : List Int} {sign first : Int} {gs : List Int} {e : Rw} (h : WayTo choices sign first gs e) : e.2.2.length = gs.length + 1 := by
  obtain ⟨rest, q1, q2, _, _, _⟩ := h.ex
  rw [q1, List.length_cons, q2]
theorem cand_len (sign g late : Int) (rows : List Rw) : (cand sign g late rows).length = rows.length := List.length_map ..
theorem cand_get {sign g late : Int} {rows : List Rw} {k : Nat} {e : Rw} (h : rows[k]? = some e) : (cand sign g late rows)[k]? = some (e.2.1 + sign * ((g + late - e.1) * (g + late - e.1 - 1)), e.2.2) := by
  unfold cand
  rw [List.getElem?_map, h]
  rfl
theorem take_map_succ {α β : Type} {f : α → β} {xs : List α} {k : Nat} {x : α} (h : xs[k]? = some x) : (xs.take k).map f ++ [f x] = (xs.take (k + 1)).map f := by
  rw [List.take_add_one, h, List.map_append]
  rfl
/-- the best so far over the numbers of the first -/
structure BestSo (choices : List Int) (sign : Int) (gs : List Int) (firsts : List Int) (m : Int × List Int) : Prop where
  l : m.2.length = gs.length
  c : ∀ x ∈ m.2, x ∈ choices
  e : m.1 = sign * cc gs m.2
  b : ∀ f ∈ firsts, ∀ rest, rest.length + 1 = gs.length → (∀ x ∈ rest, x ∈ choices) → m.1 ≤ sign * cc gs (f :: rest)
abbrev S_best_lates : DS := fun ss O P => ∃ (lap : Int) (ts choices : List Int) (sign : Int), ss = [.d (.int lap), .d (.tuple (dI ts)), .d (.list (dI choices)), .d (.int sign)] ∧ (Good lap ts ∧ 0 < choices.length ∧ choices.length ≤ 20 ∧ (∀ x ∈ choices, 0 ≤ x ∧ x ≤ 12) ∧ (-1 ≤ sign ∧ sign ≤ 1)) ∧
  ∀ ls : List Int, ls.length = ts.length → (∀ x ∈ ls, x ∈ choices) → (∀ ls' : List Int, ls'.length = ts.length → (∀ x ∈ ls', x ∈ choices) → sign * cc (gaps lap ts) ls ≤ sign * cc (gaps lap ts) ls') → P (.d (.tuple (dI ls))) O
theorem sc_best_lates : FnScope ["lap", "times", "choices", "sign", "gaps", "best", "first", "rows", "gap", "some", "after", "late", "cost", "row", "last"] ["lap", "times", "choices", "sign"] (defScope s_best_lates) := ⟨rfl, rfl, rfl, by decide +kernel, rfl, by decide +kernel, by decide +kernel⟩
theorem C_best_lates (B : Bas mg) (F : Fn K mg "best_lates" s_best_lates ["lap", "times", "choices", "sign"]) (C_cost_of : Cal P w K mg base "cost_of" S_cost_of 1) (C_gaps_of : Cal P w K mg base "gaps_of" S_gaps_of 1) : Cal P w K mg base "best_lates" S_best_lates 2 := by
  refine Cal.mkF F sc_best_lates (by rintro ss O P ⟨lap, ts, choices, sign, rfl, _⟩; rfl) fun f cdv A outer s H E hr => ?_
  have hu := hr.units
  refine ⟨_, (pss_cons (ps_asg (pe_tup (pa_cons (pe_cal C_gaps_of (hr.mono (by decide)) (by rfl) (pa_cons (pv 0) (pa_cons (pv 1) pa_nil))) (pa_cons pe_non pa_nil))) (pg_tup rfl (pgs_cons (pg_name (i := 4) sc_best_lates.nd rfl (.inr rfl)) (pgs_cons (pg_name (i := 5) sc_best_lates.nd rfl (.inl rfl)) pgs_nil))))
 (pss_cons (ps_for PassesOwn.never rfl (pi_seq (pv 2)) (pg_name (i := 6) sc_best_lates.nd rfl (.inr rfl)) (pss_cons (ps_set (i := 7) sc_best_lates.nd rfl (.inl rfl) (pe_disp (pps_cons (pv 6) (pe_tup (pa_cons pe_int (pa_cons (pe_lst (pa_cons (pv 6) pa_nil)) pa_nil))) pps_nil) (by rfl) (by rfl) (fun z => by cases z) (by decide)))
 (pss_cons (ps_for PassesOwn.never rfl (pi_seq (pe_slice sl_any (pv 4) po_none (po_some (pe_un un_neg pe_int)))) (pg_name (i := 8) sc_best_lates.nd rfl (.inr rfl)) (pss_cons (ps_set (i := 10) sc_best_lates.nd rfl (.inl rfl) pe_dnewK)
 (pss_cons (ps_for PassesOwn.never rfl (pi_seq (pv 2)) (pg_name (i := 11) sc_best_lates.nd rfl (.inr rfl)) (pss_cons (ps_lock (ps_setLc (i := 9) (own := [("last", 14), ("cost", 12), ("row", 13)]) (g := (gTup K 2 (gCons (gName 14) (gCons (gTup K 2 (gCons (gName 12) (gCons (gName 13) gNil))) gNil)))) (tt := tYes) (te := (tTup (tCons (tOp (rI0 fun i j => .int (i + j)) (tVar 12) (tOp (rI CMul fun i j => .int (i * j)) (tVar 3) (tCall (spA K S_cost_of) [] E0 (tCons (tOp (rI0 fun i j => .int (i - j)) (tOp (rI0 fun i j => .int (i + j)) (tVar 8) (tVar 11)) (tVar 14)) tNil)))) (tCons (tVar 13) tNil)))) rfl sc_best_lates.nd rfl rfl (sw_true rfl rfl rfl (by decide +kernel)) (pi_items (pv 7)) (blkOk_by (own := [("last", 14), ("cost", 12), ("row", 13)]) (N := ["lap", "times", "choices", "sign", "gaps", "best", "first", "rows", "gap", "some", "after", "late", "cost", "row", "last"]) (by first | decide +kernel | kernel_rfl)) (fun _ _ _ _ _ => (pg_tup rfl (pgs_cons (pg_name (i := 14) sc_best_lates.nd rfl (.inl rfl)) (pgs_cons (pg_tup rfl (pgs_cons (pg_name (i := 12) sc_best_lates.nd rfl (.inl rfl)) (pgs_cons (pg_name (i := 13) sc_best_lates.nd rfl (.inl rfl)) pgs_nil))) pgs_nil)))) (fun _ _ _ _ _ => pts_nil) (fun _ _ _ _ _ => (pe_tup (pa_cons (pe_op op_add (pv 12) (pe_op op_mul (pv 3) (pe_cal C_cost_of (hr.mono (by decide)) (by rfl) (pa_cons (pe_op op_sub (pe_op op_add (pv 8) (pv 11)) (pv 14)) pa_nil)))) (pa_cons (pv 13) pa_nil))))))
 (pss_cons (ps_asg (pe_callB (cl_minD rfl hu) (by rfl) B.m_min (by decide +kernel) (pa_cons (pv 9) pa_nil)) (pg_tup rfl (pgs_cons (pg_name (i := 12) sc_best_lates.nd rfl (.inl rfl)) (pgs_cons (pg_name (i := 13) sc_best_lates.nd rfl (.inl rfl)) pgs_nil))))
 (pss_one (ps_dput (Nat.lt_of_le_of_lt (Nat.add_le_add_left (by decide : 1 ≤ 64) _) hu) (pv 10) (pv 11) (pe_tup (pa_cons (pv 12) (pa_cons (pe_lst (StX.pa_star (pv 13) (pa_cons (pv 11) pa_nil))) pa_nil))) rfl)))))
 (pss_one (ps_set (i := 7) sc_best_lates.nd rfl (.inl rfl) (pv 10))))))
 (pss_cons (ps_lock (ps_setLc (i := 9) (own := [("last", 14), ("cost", 12), ("row", 13)]) (g := (gTup K 2 (gCons (gName 14) (gCons (gTup K 2 (gCons (gName 12) (gCons (gName 13) gNil))) gNil)))) (tt := tYes) (te := (tTup (tCons (tOp (rI0 fun i j => .int (i + j)) (tVar 12) (tOp (rI CMul fun i j => .int (i * j)) (tVar 3) (tCall (spA K S_cost_of) [] E0 (tCons (tOp (rI0 fun i j => .int (i - j)) (tOp (rI0 fun i j => .int (i + j)) (tOp (rIx K) (tVar 4) (tUn (rU fun i => .int (-i)) (tC (.int 1)))) (tVar 6)) (tVar 14)) tNil)))) (tCons (tVar 13) tNil)))) rfl sc_best_lates.nd rfl rfl (sw_true rfl rfl rfl (by decide +kernel)) (pi_items (pv 7)) (blkOk_by (own := [("last", 14), ("cost", 12), ("row", 13)]) (N := ["lap", "times", "choices", "sign", "gaps", "best", "first", "rows", "gap", "some", "after", "late", "cost", "row", "last"]) (by first | decide +kernel | kernel_rfl)) (fun _ _ _ _ _ => (pg_tup rfl (pgs_cons (pg_name (i := 14) sc_best_lates.nd rfl (.inl rfl)) (pgs_cons (pg_tup rfl (pgs_cons (pg_name (i := 12) sc_best_lates.nd rfl (.inl rfl)) (pgs_cons (pg_name (i := 13) sc_best_lates.nd rfl (.inl rfl)) pgs_nil))) pgs_nil)))) (fun _ _ _ _ _ => pts_nil) (fun _ _ _ _ _ => (pe_tup (pa_cons (pe_op op_add (pv 12) (pe_op op_mul (pv 3) (pe_cal C_cost_of (hr.mono (by decide)) (by rfl) (pa_cons (pe_op op_sub (pe_op op_add (pe_ix ix_seq (pv 4) (pe_un un_neg pe_int) (fun _ _ => rfl)) (pv 6)) (pv 14)) pa_nil)))) (pa_cons (pv 13) pa_nil))))))
 (pss_one (ps_set (i := 5) sc_best_lates.nd rfl (.inl rfl) (pe_ifExp (PW.pt (pw_or (pt_cmpR op_isN (pv 5) pe_non (nomark _)) (pw_or1 (pt_cmpR (op_ltD hu) (pe_callB (cl_minD rfl hu) (by rfl) B.m_min (by decide +kernel) (pa_cons (pv 9) pa_nil)) (pv 5) (nomark _))))) (pe_callB (cl_minD rfl hu) (by rfl) B.m_min (by decide +kernel) (pa_cons (pv 9) pa_nil)) (pv 5))))))))
 (pss_one (ps_ret (pe_callTy cl_tuple (by rfl) B.m_tuple (by decide +kernel) (pa_cons (pe_ix ix_seq (pv 5) pe_int (fun _ _ => rfl)) pa_nil)))))), ?_⟩
  try dsimp only [cxOf, Cx.nox]
  rintro ss O P ⟨lap, ts, choices, sign, rfl, ⟨hg, hc0, hc1, hcr, hs1, hs2⟩, hP⟩
  change StW _ _ _ [_, _, _, _, .u, .u, .u, .u, .u, .u, .u, .u, .u, .u, .u] _
  have h1 := hg.l1
  have h2 := hg.l2
  have h3 := hg.ne
  have h4 := hg.le
  have hz : (4000 : Nat) ≤ sizeLine := Nat.le_of_ble_eq_true rfl
  have hgl := gaps_len lap ts h3
  have hgb := gap_bd (ts := ts) (show 0 < lap by omega)
  have hgne := gaps_ne (lap := lap) h3
  have hlt : ∀ (g : Int) (e : Rw) (late : Int), g ∈ gaps lap ts → late ∈ choices → e.1 ∈ choices → (-(2 ^ 40) ≤ g + late - e.1 ∧ g + late - e.1 ≤ 2 ^ 40) := fun g e late a b c => by
    have := hgb g a
    have := hcr _ b
    have := hcr _ c
    omega
  have esp := List.dropLast_concat_getLast hgne
  have hdl : (gaps lap ts).dropLast.length + 1 = ts.length := by rw [List.length_dropLast]; omega
  walk_at "ev"
  refine ⟨_, _, ts, rfl, ⟨.inr rfl, by omega, by omega, by omega⟩, ?_⟩
  walk_at "ev"
  refine st_for ?_
  walk_at "ev"
  refine ⟨fun i ρ O' => O' = O ∧ ∃ b x6 x7 x8 x9 x10 x11 x12 x13 x14 : Sl, ρ = [.d (.int lap), .d (.tuple (dI ts)), .d (.list (dI choices)), .d (.int sign), .d (.list (dI (gaps lap ts))), b, x6, x7, x8, x9, x10, x11, x12, x13, x14] ∧ ((i = 0 ∧ b = .d .none) ∨ ∃ m, b = .d (crD m) ∧ BestSo choices sign (gaps lap ts) (choices.take i) m),
    ⟨rfl, _, .u, .u, .u, .u, .u, .u, .u, .u, .u, rfl, .inl ⟨rfl, rfl⟩⟩, ?_, ?_⟩
  · rintro i d ρ O' hd ⟨rfl, b, x6, x7, x8, x9, x10, x11, x12, x13, x14, rfl, hb⟩
    obtain ⟨first, hfi, rfl⟩ := dI_get hd
    have hfm := List.mem_of_getElem? hfi
    refine gw_name ?_
    walk_at "ev"
    intro p
    walk_at "ev"
    refine st_for ?_
    walk_at "ev"
    refine ⟨fun m ρ O2 => ∃ (q : Addr) (rows : List Rw) (y8 y9 y10 y11 y12 y13 y14 : Sl), O2 = (q, Oc.dK (rows.map enD)) :: O' ∧ ρ = [.d (.int lap), .d (.tuple (dI ts)), .d (.list (dI choices)), .d (.int sign), .d (.list (dI (gaps lap ts))), b, .d (.int first), .v (.ref q), y8, y9, y10, y11, y12, y13, y14] ∧ RowsOk choices sign first ((gaps lap ts).dropLast.take m) rows,
      ⟨p, [(first, 0, [first])], x8, x9, x10, x11, x12, x13, x14, rfl, rfl, rows_start choices sign first⟩, ?_, ?_⟩
    · rintro m d ρ O2 hd2 ⟨q, rows, y8, y9, y10, y11, y12, y13, y14, rfl, rfl, hrows⟩
      rw [cut_last, dI_dropLast] at hd2
      obtain ⟨g, hg1, rfl⟩ := dI_get hd2
      have hgm : g ∈ gaps lap ts := List.dropLast_subset _ (List.mem_of_getElem? hg1)
      refine gw_name (st_seq (st_set (ev_dnew fun aft => st_seq (st_for ?_))))
      walk_at "ev"
      refine ⟨fun j ρ O3 => ∃ (af : List Rw) (z9 z11 z12 z13 z14 : Sl), O3 = (aft, Oc.dK (af.map enD)) :: (q, Oc.dK (rows.map enD)) :: O' ∧ ρ = [.d (.int lap), .d (.tuple (dI ts)), .d (.list (dI choices)), .d (.int sign), .d (.list (dI (gaps lap ts))), b, .d (.int first), .v (.ref q), .d (.int g), z9, .v (.ref aft), z11, z12, z13, z14] ∧ AftOk choices sign first ((gaps lap ts).dropLast.take m) g (choices.take j) af,
        ⟨[], y9, y11, y12, y13, y14, rfl, rfl, aft_start _ _ _ _ _⟩, ?_, ?_⟩
      · rintro j d ρ O3 hd3 ⟨af, z9, z11, z12, z13, z14, rfl, rfl, ha⟩
        obtain ⟨late, hl1, rfl⟩ := dI_get hd3
        have hlm := List.mem_of_getElem? hl1
        refine gw_name (st_seq (st_lockSet (ev_lcItems (i := 1) (p := q) (kds := rows.map enD) (go_tup (gso_cons gm_name (go_name (by decide)) (gso_cons gm_tup2 (go_tup (gso_cons gm_name (go_name (by decide)) (gso_cons gm_name (go_name (by decide)) gso_nil))) gso_nil))) rfl rfl
          ⟨fun k acc O4 => acc = ((cand sign g late rows).take k).map crD ∧ O4 = (aft, Oc.dK (af.map enD)) :: O', ⟨rfl, rfl⟩, ?_, ?_⟩)))
        · rintro k kk dd acc O4 hk ⟨rfl, rfl⟩
          obtain ⟨e, he, heq⟩ := map_get hk
          cases heq
          have hb1 := hlt g e late hgm hlm (way_last (hrows.a e (List.mem_of_getElem? he)) hfm)
          have hc2 := cand_get (sign := sign) (g := g) (late := late) he
          have hkl := (List.getElem?_eq_some_iff.mp he).1
          have hrl := hrows.c.2
          show Gw K _ (.d (.tuple [.int e.1, .tuple [.int e.2.1, .list (dI e.2.2)]])) _ _ _
          walk_at "ev"
          refine ⟨by rw [List.length_map, List.length_take]; omega, take_map_succ hc2, rfl⟩
        · rintro acc O4 sl ⟨rfl, rfl⟩
          have hcl := cand_len sign g late rows
          have hrl := hrows.c
          obtain ⟨c0, cs, ec⟩ : ∃ c0 cs, cand sign g late rows = c0 :: cs := by
            cases e : cand sign g late rows with
            | nil => rw [e] at hcl; have : rows.length = 0 := hcl.symm; omega
            | cons c0 cs => exact ⟨c0, cs, rfl⟩
          obtain ⟨mn, hm1, hm2, hm3⟩ := min_cr cs c0
          have hal := alike_crs (c0 :: cs)
          have hdp := depth_crs (c0 :: cs)
          rw [List.length_map, ← hcl, List.take_length, ec]
          refine st_perm (O' := (aft, Oc.dK (af.map enD)) :: (q, Oc.dK (rows.map enD)) :: (sl, Oc.lst ((c0 :: cs).map crD)) :: O') (List.Perm.append_right O' (List.perm_append_comm (l₁ := [(q, Oc.dK (rows.map enD)), (sl, Oc.lst ((c0 :: cs).map crD))]) (l₂ := [(aft, Oc.dK (af.map enD))]))) ?_
          refine st_seq (st_asg (ev_cb (ea_cons (ev_vv rfl (ea_nil (rv_of ⟨_, crD c0, cs.map crD, rfl, .o (i := 2) rfl, hal, by show PyData.depthAll ((c0 :: cs).map crD) ≤ 60; omega, ?_⟩))))))
          rw [hm2]
          refine gw_tup rfl (gws_cons (gw_name (gws_cons (gw_name (gws_nil ?_)))))
          refine st_lose (O' := (aft, Oc.dK (af.map enD)) :: (q, Oc.dK (rows.map enD)) :: O') (List.Sublist.cons_cons _ (List.Sublist.cons_cons _ (List.sublist_cons_self _ _))) ?_
          rw [← ec] at hm1 hm3
          have hmc := hm1
          obtain ⟨e2, he2, hme⟩ := List.mem_map.mp hmc
          have hml : mn.2.length ≤ 60 := by
            rw [← hme]
            have := way_len (hrows.a e2 he2)
            rw [List.length_take] at this
            show e2.2.2.length ≤ 60
            omega
          walk_at "ev"
          refine ⟨dI (mn.2 ++ [late]), by rw [← dI_snoc, List.map_append]; rfl, by rw [dI_len, List.length_append]; simp; omega, ?_⟩
          walk_at "ev"
          have hac := ha.c.1
          rw [List.length_take] at hac
          refine ⟨late, 0, af.map enD, rfl, rfl, by rw [List.length_map]; omega, putR af late (mn.1, mn.2 ++ [late]), .v (.ref sl), .d (.int late), .d (.int mn.1), .d (.list (dI mn.2)), z14, ?_, rfl, ?_⟩
          · rw [← put_en]
            rfl
          · rw [List.take_add_one, hl1]
            exact aft_step hrows ha hlm hm1 hm3
      · rintro ρ O3 ⟨af, z9, z11, z12, z13, z14, rfl, rfl, ha⟩
        rw [dI_len, List.take_length] at ha
        refine st_lose (O' := (aft, Oc.dK (af.map enD)) :: O') (List.Sublist.cons_cons _ (List.sublist_cons_self _ _)) ?_
        refine st_set (ev_vv rfl ⟨aft, af, .d (.int g), z9, .v (.ref aft), z11, z12, z13, z14, rfl, rfl, ?_⟩)
        rw [List.take_add_one, hg1]
        exact aft_end (fun e => by rw [e] at hc0; cases hc0) hc1 ha
    · rintro ρ O2 ⟨q, rows, y8, y9, y10, y11, y12, y13, y14, rfl, rfl, hrows⟩
      rw [cut_last, dI_dropLast, dI_len, List.take_length] at hrows
      obtain ⟨gl, hgle⟩ : ∃ gl, gl = (gaps lap ts).getLast hgne := ⟨_, rfl⟩
      have hglm : gl ∈ gaps lap ts := by rw [hgle]; exact List.getLast_mem _
      rw [← hgle] at esp
      refine st_seq (st_lockSet (ev_lcItems (i := 0) (p := q) (kds := rows.map enD) (go_tup (gso_cons gm_name (go_name (by decide)) (gso_cons gm_tup2 (go_tup (gso_cons gm_name (go_name (by decide)) (gso_cons gm_name (go_name (by decide)) gso_nil))) gso_nil))) rfl rfl
          ⟨fun k acc O4 => acc = ((cand sign gl first rows).take k).map crD ∧ O4 = O', ⟨rfl, rfl⟩, ?_, ?_⟩))
      · rintro k kk dd acc O4 hk ⟨rfl, rfl⟩
        obtain ⟨e, he, heq⟩ := map_get hk
        cases heq
        have hb1 := hlt gl e first hglm hfm (way_last (hrows.a e (List.mem_of_getElem? he)) hfm)
        have hc2 := cand_get (sign := sign) (g := gl) (late := first) he
        have hkl := (List.getElem?_eq_some_iff.mp he).1
        have hrl := hrows.c.2
        show Gw K _ (.d (.tuple [.int e.1, .tuple [.int e.2.1, .list (dI e.2.2)]])) _ _ _
        walk_at "ev"
        refine ⟨_, _, _, SeqD.l, rfl, at_last hgne, ?_⟩
        rw [← hgle]
        walk_at "ev"
        refine ⟨by rw [List.length_map, List.length_take]; omega, take_map_succ hc2, rfl⟩
      · rintro acc O4 sl ⟨rfl, rfl⟩
        have hcl := cand_len sign gl first rows
        have hrl := hrows.c
        obtain ⟨c0, cs, ec⟩ : ∃ c0 cs, cand sign gl first rows = c0 :: cs := by
          cases e : cand sign gl first rows with
          | nil => rw [e] at hcl; have : rows.length = 0 := hcl.symm; omega
          | cons c0 cs => exact ⟨c0, cs, rfl⟩
        obtain ⟨mn, hm1, hm2, hm3⟩ := min_cr cs c0
        have hal := alike_crs (c0 :: cs)
        have hdp := depth_crs (c0 :: cs)
        rw [List.length_map, ← hcl, List.take_length, ec]
        rw [← ec] at hm1 hm3
        obtain ⟨⟨k1, k2, k3⟩, k4⟩ := cand_end hrows hfm hm1 hm3
        rw [esp] at k3 k4
        have key : ∀ old : Int × List Int, BestSo choices sign (gaps lap ts) (choices.take i) old → BestSo choices sign (gaps lap ts) (choices.take (i + 1)) (if dataLt (crD mn) (crD old) = true then mn else old) := fun old ho => by
          rw [List.take_add_one, hfi]
          by_cases z : dataLt (crD mn) (crD old) = true
          · rw [if_pos z]
            have := cr_le z
            refine ⟨by rw [k1]; omega, k2, k3, fun f hf rest r1 r2 => ?_⟩
            rcases List.mem_append.mp hf with y | y
            · have := ho.b f y rest r1 r2; omega
            · have e := List.mem_singleton.mp y
              rw [e]
              exact k4 rest (by omega) r2
          · rw [if_neg z]
            have := cr_ge (Bool.eq_false_iff.mpr z)
            refine ⟨ho.l, ho.c, ho.e, fun f hf rest r1 r2 => ?_⟩
            rcases List.mem_append.mp hf with y | y
            · exact ho.b f y rest r1 r2
            · have e := List.mem_singleton.mp y
              rw [e]
              have := k4 rest (by omega) r2
              omega
        have eval : ∀ {P' : PS1} {ρ' : List Sl}, ρ'[9]? = some (.v (.ref sl)) → P' (.d (crD mn)) ((q, Oc.dK (rows.map enD)) :: (sl, Oc.lst ((c0 :: cs).map crD)) :: O4) → Ev K (tCB (rOf K sMinD) (tCons (tVar 9) tNil)) ((q, Oc.dK (rows.map enD)) :: (sl, Oc.lst ((c0 :: cs).map crD)) :: O4) ρ' P' := fun h1 h2 =>
          ev_cb (ea_cons (ev_vv h1 (ea_nil (rv_of ⟨_, crD c0, cs.map crD, rfl, .o (i := 1) rfl, hal, by show PyData.depthAll ((c0 :: cs).map crD) ≤ 60; omega, by rw [hm2]; exact h2⟩))))
        have sub : O4.Sublist ((q, Oc.dK (rows.map enD)) :: (sl, Oc.lst ((c0 :: cs).map crD)) :: O4) := (List.sublist_cons_self _ _).trans (List.sublist_cons_self _ _)
        refine st_set (ev_after (ev_ite (et_or (et_test (ev_isN ?_)))))
        rcases hb with ⟨rfl, rfl⟩ | ⟨old, rfl, ho⟩
        · refine ev_vd rfl ⟨_, rfl, ev_non ⟨rfl, _, rfl, fun h => ?_, fun _ => ⟨fun _ => ?_, fun h => ?_⟩⟩⟩
          · cases h
          · refine eval rfl ⟨O4, sub, rfl, _, _, _, _, _, _, _, _, _, _, rfl, .inr ⟨mn, rfl, by omega, k2, k3, fun f hf rest r1 r2 => ?_⟩⟩
            rw [List.take_add_one, hfi] at hf
            have e := List.mem_singleton.mp hf
            rw [e]
            exact k4 rest (by omega) r2
          · cases h
        · refine ev_vd rfl ⟨_, rfl, ev_non ⟨rfl, _, rfl, fun _ => ?_, fun h => ?_⟩⟩
          · refine et_test (ev_ltD (eval rfl ⟨_, rfl, ev_vd rfl ⟨_, rfl, alike_cr mn old, (fun e => by cases e), by rw [depth_cr, depth_cr]; decide, _, rfl, fun h => ?_, fun h => ?_⟩⟩))
            · have := key old ho
              rw [if_pos h] at this
              exact eval rfl ⟨O4, sub, rfl, _, _, _, _, _, _, _, _, _, _, rfl, .inr ⟨mn, rfl, this⟩⟩
            · have := key old ho
              rw [if_neg (by rw [h]; decide)] at this
              exact ev_vd rfl ⟨O4, sub, rfl, _, _, _, _, _, _, _, _, _, _, rfl, .inr ⟨old, rfl, this⟩⟩
          · cases h
  · rintro ρ O' ⟨rfl, b, x6, x7, x8, x9, x10, x11, x12, x13, x14, rfl, hb⟩
    rw [dI_len, List.take_length] at hb
    rcases hb with ⟨h, _⟩ | ⟨m, rfl, hm⟩
    · omega
    · refine st_ret (ev_cb (ea_cons (ev_ix (ev_vd rfl ⟨_, rfl, ev_int ⟨_, _, _, SeqD.t, rfl, rfl, ea_nil (rv_of ⟨_, _, rfl, .l, ?_⟩)⟩⟩))))
      refine hP m.2 (by rw [hm.l]; omega) hm.c fun ls' r1 r2 => ?_
      rw [← hm.e]
      cases ls' with
      | nil => rw [← r1] at h3; cases h3
      | cons f rest => exact hm.b f (r2 f List.mem_cons_self) rest (by rw [List.length_cons] at r1; omega) fun x hx => r2 x (List.mem_cons_of_mem _ hx)
end
end
section
open PySem PySem.Spec PyProof.Rows L2 AL PySem.W
section
variable {P : Program} {w : World} {K : PySem.W.Frag} {mg : Str → Option Value} {base : Heap}
abbrev S_told_lates : DS := fun ss O P => ∃ (lap : Int) (ts : List Int) (late : Int) (b : Bool), ss = [.d (.int lap), .d (.tuple (dI ts)), .d (.int late), .d (.bool b)] ∧ (Good lap ts ∧ 0 ≤ late ∧ late ≤ 12) ∧
  ∀ ls, OptL lap ts late b ls → P (.d (.tuple [prD (meanP lap (putT lap ts ls)), .tuple (dI ls)])) O
theorem sc_told_lates : FnScope ["lap", "times", "late", "is_worst", "choices", "lates"] ["lap", "times", "late", "is_worst"] (defScope s_told_lates) := ⟨rfl, rfl, rfl, by decide +kernel, rfl, by decide +kernel, by decide +kernel⟩
theorem C_told_lates (B : Bas mg) (F : Fn K mg "told_lates" s_told_lates ["lap", "times", "late", "is_worst"]) (C_best_lates : Cal P w K mg base "best_lates" S_best_lates 2) (C_mean_of : Cal P w K mg base "mean_of" S_mean_of 3) (C_put_each : Cal P w K mg base "put_each" S_put_each 1) : Cal P w K mg base "told_lates" S_told_lates 4 := by
  refine Cal.mkF F sc_told_lates (by rintro ss O P ⟨lap, ts, late, b, rfl, _⟩; rfl) fun f cdv A outer s H E hr => ?_
  have hu := hr.units
  refine ⟨_, (pss_cons (ps_if (pt_cmpR (op_eqD hu) (pe_callB cl_len (by rfl) B.m_len (by decide +kernel) (pa_cons (pv 1) pa_nil)) pe_int (nomark _)) (pss_one (ps_ret (pe_tup (pa_cons (pe_cal C_mean_of (hr.mono (by decide)) (by rfl) (pa_cons (pv 0) (pa_cons (pv 1) pa_nil))) (pa_cons (pe_tup (pa_cons pe_int pa_nil)) pa_nil))))) pss_nil)
 (pss_cons (ps_set (i := 4) sc_told_lates.nd rfl (.inl rfl) (pe_ifExp (pt_val (pv 3)) (pe_lst (pa_cons pe_int (pa_cons (pv 2) pa_nil))) (pe_listRg rfl (by rfl) B.m_list (prg_1 (by rfl) B.m_range (pe_op op_add (pv 2) pe_int)))))
 (pss_cons (ps_set (i := 5) sc_told_lates.nd rfl (.inl rfl) (pe_cal C_best_lates (hr.mono (by decide)) (by rfl) (pa_cons (pv 0) (pa_cons (pv 1) (pa_cons (pv 4) (pa_cons (pe_ifExp (pt_val (pv 3)) (pe_un un_neg pe_int) pe_int) pa_nil))))))
 (pss_one (ps_ret (pe_tup (pa_cons (pe_cal C_mean_of (hr.mono (by decide)) (by rfl) (pa_cons (pv 0) (pa_cons (pe_cal C_put_each (hr.mono (by decide)) (by rfl) (pa_cons (pv 0) (pa_cons (pv 1) (pa_cons (pv 5) pa_nil)))) pa_nil))) (pa_cons (pv 5) pa_nil)))))))), ?_⟩
  try dsimp only [cxOf, Cx.nox]
  rintro ss O P ⟨lap, ts, late, b, rfl, ⟨hg, hl0, hl1⟩, hP⟩
  change StW _ _ _ [_, _, _, _, .u, .u] _
  have h1 := hg.l1
  have h2 := hg.l2
  have h3 := hg.ne
  have h4 := hg.le
  have h5 := dI_len ts
  have hz : (4000 : Nat) ≤ sizeLine := Nat.le_of_ble_eq_true rfl
  walk_at "ev"
  refine ⟨fun h => ?_, fun h => ?_⟩
  · rw [eqv_int] at h
    have h := of_decide_eq_true h
    obtain ⟨t, rfl⟩ : ∃ t, ts = [t] := by
      cases ts with
      | nil => cases h3
      | cons t r => cases r with
        | nil => exact ⟨t, rfl⟩
        | cons a r => rw [dI_len] at h; simp at h; omega
    obtain ⟨o1, o2⟩ := opt_one (late := late) (b := b) hg hl0
    walk_at "ev"
    refine ⟨_, _, [t], rfl, ⟨.inr rfl, ⟨h1, h2⟩, Nat.succ_pos 0, Nat.le_of_ble_eq_true rfl⟩, ?_⟩
    walk_at "ev"
    have := hP [0] o1
    rw [o2] at this
    exact this
  · refine st_next (st_seq (StW.mono (P := { nx := fun ρ' O' => O' = O ∧ ρ' = [.d (.int lap), .d (.tuple (dI ts)), .d (.int late), .d (.bool b), .d (.list (dI (chs late b))), .u], rt := P }) ?_ ?_ (fun _ _ h => h) (fun _ _ h => h) (fun _ _ h => h)))
    · cases b with
      | true =>
        walk_at "ev"
        rfl
      | false =>
        walk_at "ev"
        rfl
    · rintro ρ' O' ⟨rfl, rfl⟩
      have hc := chs_rg hl0 b
      have hcl : 0 < (chs late b).length ∧ (chs late b).length ≤ 20 := by
        cases b with
        | true => exact ⟨Nat.succ_pos _, Nat.le_of_ble_eq_true rfl⟩
        | false =>
          show 0 < (rng (late + 1).toNat).length ∧ (rng (late + 1).toNat).length ≤ 20
          rw [rng_len]
          omega
      refine st_seq (st_set (Ev.mono (P := fun s O1 => O1 = O' ∧ ∃ ls, OptL lap ts late b ls ∧ s = .d (.tuple (dI ls))) ?_ ?_))
      · refine ev_call (ea_cons (ev_vd rfl (ea_cons (ev_vd rfl (ea_cons (ev_vd rfl (ea_cons (Ev.mono (P := fun s O1 => O1 = O' ∧ s = .d (.int (sgn b))) ?_ ?_))))))))
        · cases b with
          | true =>
            walk_at "ev"
            rfl
          | false =>
            walk_at "ev"
            rfl
        · rintro _ _ ⟨rfl, rfl⟩
          refine ea_nil (rv_of ⟨lap, ts, chs late b, sgn b, rfl, ⟨hg, hcl.1, hcl.2, fun x hx => ?_, ?_, ?_⟩, fun ls q1 q2 q3 => ⟨rfl, ls, ⟨q1, q2, q3⟩, rfl⟩⟩)
          · have := hc x hx; omega
          · cases b <;> decide
          · cases b <;> decide
      · rintro _ _ ⟨rfl, ls, ho, rfl⟩
        have hpl := put_len lap ts ls ho.l
        walk_at "ev"
        refine ⟨_, _, putT lap ts ls, rfl, ⟨.inl rfl, ⟨h1, h2⟩, by omega, by omega⟩, ?_⟩
        walk_at "ev"
        exact hP ls ho
abbrev S_at_worst : DS := fun ss O P => ∃ (lap : Int) (ts : List Int) (late : Int), ss = [.d (.int lap), .d (.tuple (dI ts)), .d (.int late)] ∧ (Good lap ts ∧ 0 ≤ late ∧ late ≤ 12 ∧ (1 < ts.length → late < minI (gaps lap ts))) ∧
  ∀ ls, OptL lap ts late true ls → P (.d (.tuple [prD (meanP lap (putT lap ts ls)), .tuple (dI ls)])) O
theorem sc_at_worst : FnScope ["lap", "times", "late"] ["lap", "times", "late"] (defScope s_at_worst) := ⟨rfl, rfl, rfl, by decide +kernel, rfl, by decide +kernel, by decide +kernel⟩
theorem C_at_worst (B : Bas mg) (F : Fn K mg "at_worst" s_at_worst ["lap", "times", "late"]) (C_check_late : Cal P w K mg base "check_late" S_check_late 5) (C_told_lates : Cal P w K mg base "told_lates" S_told_lates 4) : Cal P w K mg base "at_worst" S_at_worst 6 := by
  refine Cal.mkF F sc_at_worst (by rintro ss O P ⟨lap, ts, late, rfl, _⟩; rfl) fun f cdv A outer s H E hr => ?_
  have hu := hr.units
  refine ⟨_, (pss_cons (ps_expr (pe_cal C_check_late (hr.mono (by decide)) (by rfl) (pa_cons (pv 0) (pa_cons (pv 1) (pa_cons (pv 2) pa_nil)))))
 (pss_one (ps_ret (pe_cal C_told_lates (hr.mono (by decide)) (by rfl) (pa_cons (pv 0) (pa_cons (pv 1) (pa_cons (pv 2) (pa_cons pe_bl pa_nil)))))))), ?_⟩
  try dsimp only [cxOf, Cx.nox]
  rintro ss O P ⟨lap, ts, late, rfl, ⟨hg, h1, h2, h3⟩, hP⟩
  change StW _ _ _ [_, _, _] _
  walk_at "ev"
  exact hP
abbrev S_held : DS := fun ss O P => ∃ (lap : Int) (ts : List Int) (late : Int), ss = [.d (.int lap), .d (.tuple (dI ts)), .d (.int late)] ∧ (Good lap ts ∧ 0 ≤ late ∧ late ≤ 12 ∧ (1 < ts.length → late < minI (gaps lap ts))) ∧
  ∀ ls, OptL lap ts late false ls → P (.d (.tuple [prD (meanP lap (putT lap ts ls)), .tuple (dI ls)])) O
theorem sc_held : FnScope ["lap", "times", "late"] ["lap", "times", "late"] (defScope s_held) := ⟨rfl, rfl, rfl, by decide +kernel, rfl, by decide +kernel, by decide +kernel⟩
theorem C_held (B : Bas mg) (F : Fn K mg "held" s_held ["lap", "times", "late"]) (C_check_late : Cal P w K mg base "check_late" S_check_late 5) (C_told_lates : Cal P w K mg base "told_lates" S_told_lates 4) : Cal P w K mg base "held" S_held 6 := by
  refine Cal.mkF F sc_held (by rintro ss O P ⟨lap, ts, late, rfl, _⟩; rfl) fun f cdv A outer s H E hr => ?_
  have hu := hr.units
  refine ⟨_, (pss_cons (ps_expr (pe_cal C_check_late (hr.mono (by decide)) (by rfl) (pa_cons (pv 0) (pa_cons (pv 1) (pa_cons (pv 2) pa_nil)))))
 (pss_one (ps_ret (pe_cal C_told_lates (hr.mono (by decide)) (by rfl) (pa_cons (pv 0) (pa_cons (pv 1) (pa_cons (pv 2) (pa_cons pe_bl pa_nil)))))))), ?_⟩
  try dsimp only [cxOf, Cx.nox]
  rintro ss O P ⟨lap, ts, late, rfl, ⟨hg, h1, h2, h3⟩, hP⟩
  change StW _ _ _ [_, _, _] _
  walk_at "ev"
  exact hP
end
end
section
open PySem PySem.Spec PyProof.Rows L2 AL
section
variable {P : Program} {w : World} {K : PySem.W.Frag} {mg : Str → Option Value} {base : Heap}
abbrev potL (p : Addr) (a b c : Int) : Own := [(p, .lst (dI [a, b, c]))]
abbrev S__law_take : DS := fun ss O P => ∃ (p : Addr) (u : Int), ss = [.v (.ref p), .d (.int u)] ∧ (∃ (n : Nat) (a b c : Int), O = potL p a b c ∧ PotOk n a b c ∧ n ≤ 2 ^ 40 ∧ 0 < u ∧ u < 2 ^ 30 ∧
  ∀ d a' b' c', 0 ≤ d → d < u → PotOk (n + 1) a' b' c' → P (.d (.int d)) (potL p a' b' c'))
theorem sc__law_take : FnScope ["pot", "upto", "prime", "blend", "digit"] ["pot", "upto"] (defScope s__law_take) := ⟨rfl, rfl, rfl, by decide +kernel, rfl, by decide +kernel, by decide +kernel⟩
theorem C__law_take (B : Bas mg) (F : Fn K mg "_law_take" s__law_take ["pot", "upto"])  : Cal P w K mg base "_law_take" S__law_take 1 := by
  refine Cal.mkF F sc__law_take (by rintro ss O P ⟨p, u, rfl, _⟩; rfl) fun f cdv A outer s H E hr => ?_
  have hu := hr.units
  refine ⟨_, (pss_cons (ps_if (pt_cmpR op_gt (pe_ix ix_seq (pv 0) pe_int (fun _ _ => rfl)) pe_int (nomark _)) (pss_cons (ps_set (i := 4) sc__law_take.nd rfl (.inl rfl) (pe_op op_mod (pe_callTy cl_int (by rfl) B.m_int (by decide +kernel) (pa_cons (pe_ix ix_seq (pv 0) pe_int (fun _ _ => rfl)) pa_nil)) (pv 1)))
 (pss_cons (ps_asg (pe_op op_fdiv (pe_ix ix_seq (pv 0) pe_int (fun _ _ => rfl)) (pv 1)) (pg_sub (pv 0) pe_int set_list))
 (pss_one (ps_ret (pv 4))))) pss_nil)
 (pss_cons (ps_asg (pe_op op_add (pe_ix ix_seq (pv 0) pe_int (fun _ _ => rfl)) pe_int) (pg_sub (pv 0) pe_int set_list))
 (pss_cons (ps_set (i := 2) sc__law_take.nd rfl (.inl rfl) (pe_ix ix_seq (pe_lst (pa_cons pe_int (pa_cons pe_int (pa_cons pe_int (pa_cons pe_int (pa_cons pe_int pa_nil)))))) (pe_op op_mod (pe_callTy cl_int (by rfl) B.m_int (by decide +kernel) (pa_cons (pe_ix ix_seq (pv 0) pe_int (fun _ _ => rfl)) pa_nil)) pe_int) (fun _ _ => rfl)))
 (pss_cons (ps_set (i := 3) sc__law_take.nd rfl (.inl rfl) (pe_op op_mod (pe_callTy cl_int (by rfl) B.m_int (by decide +kernel) (pa_cons (pe_op op_powG (pe_callTy cl_int (by rfl) B.m_int (by decide +kernel) (pa_cons (pe_op op_add (pe_op op_add (pe_ix ix_seq (pv 0) pe_int (fun _ _ => rfl)) (pe_op op_mul (pe_op op_mul pe_int (pe_ix ix_seq (pv 0) pe_int (fun _ _ => rfl))) (pe_ix ix_seq (pv 0) pe_int (fun _ _ => rfl)))) pe_int) pa_nil)) pe_int) pa_nil)) (pv 2)))
 (pss_cons (ps_set (i := 3) sc__law_take.nd rfl (.inl rfl) (pe_op op_mod (pe_callTy cl_int (by rfl) B.m_int (by decide +kernel) (pa_cons (pe_op op_mul (pv 3) (pe_op op_add (pe_op op_mod (pe_callTy cl_int (by rfl) B.m_int (by decide +kernel) (pa_cons (pv 3) pa_nil)) pe_int) (pe_op op_mul pe_int (pe_ix ix_seq (pv 0) pe_int (fun _ _ => rfl))))) pa_nil)) pe_int))
 (pss_one (ps_ret (pe_op op_mod (pe_callTy cl_int (by rfl) B.m_int (by decide +kernel) (pa_cons (pe_op op_fdiv (pv 3) pe_int) pa_nil)) (pv 1))))))))), ?_⟩
  try dsimp only [cxOf, Cx.nox]
  rintro ss O P ⟨p, u, rfl, n, a, b, c, rfl, hp, hn, hu1, hu2, hP⟩
  change StW _ _ _ [_, _, .u, .u, .u] _
  obtain ⟨ha, hb, hb1, hc, hc1⟩ := hp
  walk_at "ev"
  refine ⟨fun h => ?_, fun h => ?_⟩
  · have h := of_decide_eq_true h
    walk_at "ev"
    refine hP _ _ _ _ (Int.emod_nonneg _ (by omega)) (Int.emod_lt_of_pos _ hu1) ⟨Int.ediv_nonneg ha (by omega), hb, hb1, hc, by omega⟩
  · have hbits := blend_bits (mu := 143467) (ad := 28805) (by decide) (by decide) hb hb1 hc hc1 hn
    have hp5 := primes_pos ((c + 1) % 5).toNat (by omega)
    walk_at "ev"
    refine ⟨dI primes, rfl, Nat.le_of_ble_eq_true rfl, ?_⟩
    walk_at "ev"
    refine ⟨_, _, _, .l, rfl, at_dI (Int.emod_nonneg _ (by decide)) (Int.emod_lt_of_pos _ (by decide)), ?_⟩
    walk_at "ev"
    refine hP _ a b (c + 1) (Int.emod_nonneg _ (by omega)) (Int.emod_lt_of_pos _ hu1) ⟨ha, hb, hb1, by omega, by omega⟩
abbrev S__law_pot : DS := fun ss O P => ∃ (ns : List Int) (place : Int), ss = [.d (.list (dI ns)), .d (.int place)] ∧ (O = [] ∧ 0 ≤ place ∧ place ≤ 63 ∧ ns.length ≤ 63 ∧ ∀ p a b c, PotOk 0 a b c → P (.v (.ref p)) (potL p a b c))
theorem sc__law_pot : FnScope ["script", "place", "cell", "own", "small"] ["script", "place"] (defScope s__law_pot) := ⟨rfl, rfl, rfl, by decide +kernel, rfl, by decide +kernel, by decide +kernel⟩
theorem C__law_pot (B : Bas mg) (F : Fn K mg "_law_pot" s__law_pot ["script", "place"])  : Cal P w K mg base "_law_pot" S__law_pot 1 := by
  refine Cal.mkF F sc__law_pot (by rintro ss O P ⟨ns, place, rfl, _⟩; rfl) fun f cdv A outer s H E hr => ?_
  have hu := hr.units
  refine ⟨_, (pss_cons (ps_set (i := 2) sc__law_pot.nd rfl (.inl rfl) (pe_ifExp (pt_cmpR op_lt (pv 1) (pe_callB cl_len (by rfl) B.m_len (by decide +kernel) (pa_cons (pv 0) pa_nil)) (nomark _)) (pe_ix ix_seq (pv 0) (pv 1) (fun _ _ => rfl)) (pe_op op_add (pe_op op_add (pe_op op_mod (pe_callB (cl_sum rfl) (by rfl) B.m_sum (by decide +kernel) (pa_cons (pe_slice sl_any (pv 0) po_none (po_some pe_int)) pa_nil)) pe_int) (pe_op op_mul pe_int (pv 1))) pe_int)))
 (pss_cons (ps_set (i := 3) sc__law_pot.nd rfl (.inl rfl) (pe_op op_mul (pe_op op_mod (pe_callTy cl_int (by rfl) B.m_int (by decide +kernel) (pa_cons (pe_callB cl_abs (by rfl) B.m_abs (by decide +kernel) (pa_cons (pv 2) pa_nil)) pa_nil)) (pe_op op_powG (pe_op op_powG pe_int pe_int) pe_int)) (pe_callTy cl_int (by rfl) B.m_int (by decide +kernel) (pa_cons (pe_cmpR op_ge (pe_callB cl_abs (by rfl) B.m_abs (by decide +kernel) (pa_cons (pv 2) pa_nil)) (pe_op op_powG pe_int pe_int) (nomark _)) pa_nil))))
 (pss_cons (ps_set (i := 4) sc__law_pot.nd rfl (.inl rfl) (pe_op op_mod (pe_callTy cl_int (by rfl) B.m_int (by decide +kernel) (pa_cons (pv 2) pa_nil)) pe_int))
 (pss_one (ps_ret (pe_lst (pa_cons (pv 3) (pa_cons (pe_op op_mod (pe_callTy cl_int (by rfl) B.m_int (by decide +kernel) (pa_cons (pe_op op_add (pe_op op_add (pe_op op_mul (pv 4) pe_int) (pe_op op_mul (pe_op op_mul pe_int (pv 1)) (pv 1))) pe_int) pa_nil)) pe_int) (pa_cons pe_int pa_nil))))))))), ?_⟩
  try dsimp only [cxOf, Cx.nox]
  rintro ss O P ⟨ns, place, rfl, rfl, hp1, hp2, hnl, hP⟩
  change StW _ _ _ [_, _, .u, .u, .u] _
  have hdl := dI_len ns
  refine st_seq (st_set (Ev.mono (P := fun s O' => ∃ i : Int, s = .d (.int i) ∧ O' = []) ?_ ?_))
  · walk_at "ev"
    refine ⟨fun h => ?_, fun h => ?_⟩
    · have h := of_decide_eq_true h
      walk_at "ev"
    · walk_at "ev"
      rw [show AL.cutD (dI ns) none (some 1) = dI (ns.take 1) from (cut_to (dI ns) 1).trans (dI_take ns 1)]
      walk_at "ev"
  · rintro _ _ ⟨cell, rfl, rfl⟩
    walk_at "eo"
    intro p
    refine hP p _ _ _ ⟨own_nn _ _ (by decide +kernel) _, Int.emod_nonneg _ (by decide), Int.lt_of_lt_of_le (Int.emod_lt_of_pos _ (by decide)) (by decide), Int.le_refl 0, Int.le_refl 0⟩
abbrev S__law_of : DS := fun ss O P => ∃ (p : Addr) (xs : List Int), ss = [.v (.ref p), .d (.list (dI xs))] ∧ (∃ (n : Nat) (a b c : Int), O = potL p a b c ∧ PotOk n a b c ∧ n ≤ 2 ^ 40 ∧ 0 < xs.length ∧ xs.length < 2000 ∧
  ∀ d a' b' c', d ∈ xs → PotOk (n + 1) a' b' c' → P (.d (.int d)) (potL p a' b' c'))
theorem sc__law_of : FnScope ["pot", "some"] ["pot", "some"] (defScope s__law_of) := ⟨rfl, rfl, rfl, by decide +kernel, rfl, by decide +kernel, by decide +kernel⟩
theorem C__law_of (B : Bas mg) (F : Fn K mg "_law_of" s__law_of ["pot", "some"]) (C__law_take : Cal P w K mg base "_law_take" S__law_take 1) : Cal P w K mg base "_law_of" S__law_of 2 := by
  refine Cal.mkF F sc__law_of (by rintro ss O P ⟨p, xs, rfl, _⟩; rfl) fun f cdv A outer s H E hr => ?_
  have hu := hr.units
  refine ⟨_, (pss_one (ps_ret (pe_ix ix_seq (pv 1) (pe_cal C__law_take (hr.mono (by decide)) (by rfl) (pa_cons (pv 0) (pa_cons (pe_callB cl_len (by rfl) B.m_len (by decide +kernel) (pa_cons (pv 1) pa_nil)) pa_nil))) (fun _ _ => rfl)))), ?_⟩
  try dsimp only [cxOf, Cx.nox]
  rintro ss O P ⟨p, xs, rfl, n, a, b, c, rfl, hp, hn, h1, h2, hP⟩
  change StW _ _ _ [_, _] _
  have hdl := dI_len xs
  walk_at "ev"
  refine ⟨n, a, b, c, rfl, hp, hn, by omega, by omega, fun d a' b' c' hd1 hd2 hp' => ?_⟩
  walk_at "ev"
  rw [List.getD_eq_getElem?_getD, List.getElem?_eq_getElem (by omega)]
  exact hP _ _ _ _ (List.getElem_mem _) hp'
abbrev S__law_cells : DS := fun ss O P => ∃ (ns : List Int), ss = [.d (.list (dI ns)), .d (.int 2)] ∧ (ns.length ≤ 63 ∧ ∀ k, 1 ≤ k → k ≤ 2 → P (.d (.list (dI (rng k)))) O)
theorem sc__law_cells : FnScope ["script", "limit"] ["script", "limit"] (defScope s__law_cells) := ⟨rfl, rfl, rfl, by decide +kernel, rfl, by decide +kernel, by decide +kernel⟩
theorem C__law_cells (B : Bas mg) (F : Fn K mg "_law_cells" s__law_cells ["script", "limit"])  : Cal P w K mg base "_law_cells" S__law_cells 1 := by
  refine Cal.mkF F sc__law_cells (by rintro ss O P ⟨ns, rfl, _⟩; rfl) fun f cdv A outer s H E hr => ?_
  have hu := hr.units
  refine ⟨_, (pss_one (ps_ret (pe_listRg rfl (by rfl) B.m_list (prg_1 (by rfl) B.m_range (pe_callB (cl_max2 rfl) (by rfl) B.m_max (by decide +kernel) (pa_cons pe_int (pa_cons (pe_callB (cl_min2 rfl) (by rfl) B.m_min (by decide +kernel) (pa_cons (pv 1) (pa_cons (pe_callB cl_len (by rfl) B.m_len (by decide +kernel) (pa_cons (pv 0) pa_nil)) pa_nil))) pa_nil))))))), ?_⟩
  try dsimp only [cxOf, Cx.nox]
  rintro ss O P ⟨ns, rfl, h1, hP⟩
  change StW _ _ _ [_, _] _
  have hdl := dI_len ns
  walk_at "ev"
  refine hP _ ?_ ?_ <;> omega
abbrev S__law_is_less : DS := fun ss O P => ∃ p q : Int × Int, ss = [.d (prD p), .d (prD q)] ∧ (CMul p.1 q.2 ∧ CMul q.1 p.2) ∧ P (.d (.bool (decide (p.1 * q.2 < q.1 * p.2)))) O
theorem sc__law_is_less : FnScope ["one", "other"] ["one", "other"] (defScope s__law_is_less) := ⟨rfl, rfl, rfl, by decide +kernel, rfl, by decide +kernel, by decide +kernel⟩
theorem C__law_is_less (B : Bas mg) (F : Fn K mg "_law_is_less" s__law_is_less ["one", "other"])  : Cal P w K mg base "_law_is_less" S__law_is_less 1 := by
  refine Cal.mkF F sc__law_is_less (by rintro ss O P ⟨p, q, rfl, _⟩; rfl) fun f cdv A outer s H E hr => ?_
  have hu := hr.units
  refine ⟨_, (pss_one (ps_ret (pe_cmpR op_lt (pe_op op_mul (pe_ix ix_seq (pv 0) pe_int (fun _ _ => rfl)) (pe_ix ix_seq (pv 1) pe_int (fun _ _ => rfl))) (pe_op op_mul (pe_ix ix_seq (pv 1) pe_int (fun _ _ => rfl)) (pe_ix ix_seq (pv 0) pe_int (fun _ _ => rfl))) (nomark _)))), ?_⟩
  try dsimp only [cxOf, Cx.nox]
  rintro ss O P ⟨p, q, rfl, ⟨h1, h2⟩, hP⟩
  change StW _ _ _ [_, _] _
  unfold CMul at h1 h2
  walk_at "ev"
  exact hP
abbrev S__law_fraction : DS := fun ss O P => ∃ a b : Int, ss = [.d (.int a), .d (.int b)] ∧ (0 ≤ a ∧ a < 2 ^ 60 ∧ 0 < b ∧ b < 2 ^ 29) ∧ P (.d (prD (fr a b))) O
theorem sc__law_fraction : FnScope ["top", "low", "one", "other", "lap", "sign"] ["top", "low"] (defScope s__law_fraction) := ⟨rfl, rfl, rfl, by decide +kernel, rfl, by decide +kernel, by decide +kernel⟩
theorem C__law_fraction (B : Bas mg) (F : Fn K mg "_law_fraction" s__law_fraction ["top", "low"])  : Cal P w K mg base "_law_fraction" S__law_fraction 1 := by
  refine Cal.mkF F sc__law_fraction (by rintro ss O P ⟨a, b, rfl, _⟩; rfl) fun f cdv A outer s H E hr => ?_
  have hu := hr.units
  refine ⟨_, (pss_cons (ps_par (i := 2) (j := 3) rfl sc__law_fraction.nd rfl rfl (by decide) rfl rfl (pa_cons (pe_callB cl_abs (by rfl) B.m_abs (by decide +kernel) (pa_cons (pv 0) pa_nil)) (pa_cons (pe_callB cl_abs (by rfl) B.m_abs (by decide +kernel) (pa_cons (pv 1) pa_nil)) pa_nil)) (by rfl))
 (pss_cons (ps_for PassesOwn.never rfl (pi_range1 (by rfl) B.m_range (pa_cons pe_int pa_nil)) (pg_name (i := 4) sc__law_fraction.nd rfl (.inl rfl)) (pss_cons (ps_if (pt_cmpR (op_eqD hu) (pv 3) pe_int (nomark _)) (pss_one ps_break) pss_nil)
 (pss_one (ps_par (i := 2) (j := 3) rfl sc__law_fraction.nd rfl rfl (by decide) rfl rfl (pa_cons (pv 3) (pa_cons (pe_op op_mod (pv 2) (pv 3)) pa_nil)) (by rfl)))))
 (pss_cons (ps_set (i := 5) sc__law_fraction.nd rfl (.inl rfl) (pe_ifExp (pt_cmpR op_gt (pv 1) pe_int (nomark _)) pe_int (pe_un un_neg pe_int)))
 (pss_one (ps_ret (pe_tup (pa_cons (pe_callTy cl_int (by rfl) B.m_int (by decide +kernel) (pa_cons (pe_op op_fdiv (pe_op op_mul (pv 5) (pv 0)) (pv 2)) pa_nil)) (pa_cons (pe_callTy cl_int (by rfl) B.m_int (by decide +kernel) (pa_cons (pe_op op_fdiv (pe_op op_mul (pv 5) (pv 1)) (pv 2)) pa_nil)) pa_nil)))))))), ?_⟩
  try dsimp only [cxOf, Cx.nox]
  rintro ss O P ⟨a, b, rfl, ⟨h1, h2, h3, h4⟩, hP⟩
  change StW _ _ _ [_, _, .u, .u, .u, .u] _
  have ea : (a.natAbs : Int) = a := Int.natAbs_of_nonneg h1
  have eb : (b.natAbs : Int) = b := Int.natAbs_of_nonneg (by omega)
  have hg1 := gcd_pos (a := a) h3
  have hg2 := gcd_le (a := a) h3
  walk_at "ev"
  rw [ea, eb]
  refine StW.mono (P := { nx := fun ρ' O' => O' = O ∧ ∃ (z : Sl), ρ' = [.d (.int a), .d (.int b), .d (.int (Int.gcd a b)), .d (.int 0), z, .u], rt := P }) ?_ ?_ (fun _ _ h => h) (fun _ _ h => h) (fun _ _ h => h)
  · refine st_for ?_
    walk_at "ev"
    refine ⟨fun i ρ O' => O' = O ∧ ∃ (x y : Int) (z : Sl), ρ = [.d (.int a), .d (.int b), .d (.int x), .d (.int y), z, .u] ∧ 0 ≤ x ∧ 0 ≤ y ∧ Int.gcd x y = Int.gcd a b ∧ ((i = 0 ∧ x * y ≤ a * b) ∨ (1 ≤ i ∧ y < x ∧ x * y * 2 ^ (i - 1) ≤ a * b)), ⟨rfl, a, b, .u, rfl, h1, by omega, rfl, .inl ⟨rfl, Int.le_refl _⟩⟩, ?_, ?_⟩
    · rintro i d ρ O' hd ⟨rfl, x, y, z, rfl, hx, hy, hg, hh⟩
      walk_at "ev"
      rw [eqv_int]
      refine ⟨fun h => ?_, fun h => ?_⟩
      · have h := of_decide_eq_true h
        subst h
        rw [Int.gcd_zero_right] at hg
        have e : x = (Int.gcd a b : Int) := by rw [← hg, Int.natAbs_of_nonneg hx]
        subst e
        walk_at "ev"
        exact ⟨_, rfl⟩
      · have h := of_decide_eq_false h
        have hy2 : 0 < y := by omega
        obtain ⟨k1, k2, k3⟩ := euc_step hx hy2 hh
        walk_at "ev"
        exact ⟨by rw [natAbs_gcd, hg], .inr ⟨by omega, k1, k3⟩⟩
    · rintro ρ O' ⟨rfl, x, y, z, rfl, hx, hy, hg, hh⟩
      rw [rgD_len] at hh
      have hab : a * b < 2 ^ 100 := by
        have := Int.mul_le_mul (show a ≤ 2 ^ 60 by omega) (show b ≤ 2 ^ 29 by omega) (by omega) (by decide)
        have e : (2 : Int) ^ 60 * 2 ^ 29 < 2 ^ 100 := by decide
        omega
      rcases hh with ⟨h, _⟩ | ⟨_, hl, hp⟩
      · cases h
      · have e := euc_end hy hl hp hab
        subst e
        rw [Int.gcd_zero_right] at hg
        have e : x = (Int.gcd a b : Int) := by rw [← hg, Int.natAbs_of_nonneg hx]
        subst e
        exact ⟨rfl, z, rfl⟩
  · rintro ρ O' ⟨rfl, z, rfl⟩
    walk_at "ev"
    rw [Int.one_mul, Int.one_mul]
    exact hP
abbrev S__law_some : DS := fun ss O P => ∃ (p : Addr) (ns : List Int) (amount : Int), ss = [.v (.ref p), .d (.list (dI ns)), .d (.int amount)] ∧ (∃ (n : Nat) (a b c : Int), O = potL p a b c ∧ PotOk n a b c ∧ n ≤ 2 ^ 39 ∧ 0 ≤ amount ∧ amount ≤ ns.length ∧ ns.length ≤ 2000 ∧
  ∀ (ms : List Int) a' b' c', (ms.length : Int) = amount → (∀ m ∈ ms, m ∈ ns) → PotOk (n + amount.toNat) a' b' c' → P (.d (.list (dI ms))) (potL p a' b' c'))
theorem sc__law_some : FnScope ["pot", "some", "amount", "rest", "found", "lap"] ["pot", "some", "amount"] (defScope s__law_some) := ⟨rfl, rfl, rfl, by decide +kernel, rfl, by decide +kernel, by decide +kernel⟩
theorem C__law_some (B : Bas mg) (F : Fn K mg "_law_some" s__law_some ["pot", "some", "amount"]) (C__law_take : Cal P w K mg base "_law_take" S__law_take 1) : Cal P w K mg base "_law_some" S__law_some 2 := by
  refine Cal.mkF F sc__law_some (by rintro ss O P ⟨p, ns, amount, rfl, _⟩; rfl) fun f cdv A outer s H E hr => ?_
  have hu := hr.units
  refine ⟨_, (pss_cons (ps_par (i := 3) (j := 4) rfl sc__law_some.nd rfl rfl (by decide) rfl rfl (pa_cons (pe_callTy cl_list (by rfl) B.m_list (by decide +kernel) (pa_cons (pv 1) pa_nil)) (pa_cons (pe_lst pa_nil) pa_nil)) (by rfl))
 (pss_cons (ps_for PassesOwn.never rfl (pi_range1 (by rfl) B.m_range (pa_cons (pv 2) pa_nil)) (pg_name (i := 5) sc__law_some.nd rfl (.inl rfl)) (pss_one (ps_expr (pe_bm PySem.F.plainAttrs_list PySem.F.slot_list_append PySem.F.type_list_append mt_append (pv 4) (pa_cons (pe_bm PySem.F.plainAttrs_list PySem.F.slot_list_pop PySem.F.type_list_pop mt_popAt (pv 3) (pa_cons (pe_cal C__law_take (hr.mono (by decide)) (by rfl) (pa_cons (pv 0) (pa_cons (pe_callB cl_len (by rfl) B.m_len (by decide +kernel) (pa_cons (pv 3) pa_nil)) pa_nil))) pa_nil)) pa_nil)))))
 (pss_one (ps_ret (pv 4))))), ?_⟩
  try dsimp only [cxOf, Cx.nox]
  rintro ss O P ⟨p, ns, amount, rfl, n, a, b, c, rfl, hp, hn, h1, h2, h3, hP⟩
  change StW _ _ _ [_, _, _, .u, .u, .u] _
  have hz : (4000 : Nat) ≤ sizeLine := Nat.le_of_ble_eq_true rfl
  refine st_seq (st_par (ea_cons (ev_cb (ea_cons (ev_vd rfl (ea_nil (rv_of ⟨_, _, rfl, .l, .inr fun q => ?_⟩)))))))
  refine ea_cons (ev_lstO (ea_nil ⟨[], rfl, Nat.zero_le _, fun r => ea_nil ⟨_, _, rfl, ?_⟩⟩))
  refine st_perm (O' := potL p a b c ++ [(r, .lst []), (q, .lst (dI ns))]) ?_ ?_
  · exact (List.perm_append_comm (l₁ := [(r, Oc.lst []), (q, .lst (dI ns))]) (l₂ := potL p a b c))
  refine st_seq (st_for ?_)
  walk_at "ev"
  refine ⟨fun i ρ O' => ∃ (ms rest : List Int) (a' b' c' : Int) (z : Sl), ρ = [.v (.ref p), .d (.list (dI ns)), .d (.int amount), .v (.ref q), .v (.ref r), z] ∧ O' = potL p a' b' c' ++ [(r, .lst (dI ms)), (q, .lst (dI rest))] ∧ PotOk (n + i) a' b' c' ∧ ms.length = i ∧ rest.length + i = ns.length ∧ (∀ m ∈ ms, m ∈ ns) ∧ (∀ m ∈ rest, m ∈ ns),
    ⟨[], ns, a, b, c, .u, rfl, rfl, hp, rfl, rfl, (fun m hm => by cases hm), fun m hm => hm⟩, ?_, ?_⟩
  · rintro i d ρ O' hd ⟨ms, rest, a', b', c', z, rfl, rfl, hp', hl1, hl2, hm1, hm2⟩
    have hi : i < amount.toNat := by
      have := (List.getElem?_eq_some_iff.mp hd).1
      rw [rgD_len] at this
      exact this
    refine gw_name (st_drop (ev_append (ev_vv rfl ⟨_, rfl, ⟨1, _, rfl⟩, ev_popAt (ev_vv rfl ⟨_, rfl, ⟨2, _, rfl⟩, ev_call (ea_cons (ev_vv rfl (ea_cons (ev_cb (ea_cons (ev_vv rfl (ea_nil (rv_of ⟨_, _, rfl, .o (i := 2) rfl, ea_nil ?_⟩))))))))⟩)⟩)))
    refine rv_part (Oa := potL p a' b' c') (Ob := [(r, .lst (dI ms)), (q, .lst (dI rest))]) (P' := fun s O' => ∃ d a2 b2 c2, s = .d (.int d) ∧ O' = potL p a2 b2 c2 ∧ 0 ≤ d ∧ d < rest.length ∧ PotOk (n + i + 1) a2 b2 c2) (List.Perm.refl _)
      ⟨p, _, rfl, n + i, a', b', c', rfl, hp', by omega, by rw [dI_len]; omega, by rw [dI_len]; omega, fun d a2 b2 c2 e1 e2 e3 => ⟨d, a2, b2, c2, rfl, rfl, e1, by rw [dI_len] at e2; exact e2, e3⟩⟩ ?_
    rintro _ _ ⟨d, a2, b2, c2, rfl, rfl, e1, e2, e3⟩
    have hj : d.toNat < rest.length := by omega
    refine ⟨2, dI rest, d.toNat, .int rest[d.toNat], by rw [Int.toNat_of_nonneg e1], rfl, by omega, by rw [List.getElem?_map, List.getElem?_eq_getElem hj]; rfl, 1, dI ms, _, rfl, rfl, by rw [dI_len]; omega, ?_⟩
    refine ⟨ms ++ [rest[d.toNat]], rest.eraseIdx d.toNat, a2, b2, c2, _, rfl, ?_, e3, by rw [List.length_append, hl1]; rfl, by rw [List.length_eraseIdx_of_lt hj]; omega, ?_, fun m hm => hm2 m (mem_erase hm)⟩
    · rw [← dI_erase, ← dI_snoc]
      rfl
    · intro m hm
      rcases List.mem_append.mp hm with e | e
      · exact hm1 m e
      · rw [List.mem_singleton.mp e]
        exact hm2 _ (List.getElem_mem _)
  · rintro ρ O' ⟨ms, rest, a', b', c', z, rfl, rfl, hp', hl1, hl2, hm1, hm2⟩
    rw [rgD_len] at hp' hl1
    refine st_freeze (i := 1) (j := 4) rfl rfl (st_lose (O' := potL p a' b' c') ?_ ?_)
    · exact List.sublist_append_left (potL p a' b' c') [(q, Oc.lst (dI rest))]
    · walk_at "ev"
      exact hP ms a' b' c' (by omega) hm1 hp'
abbrev S__law_times : DS := fun ss O P => ∃ (p : Addr) (lap most : Int), ss = [.v (.ref p), .d (.int lap), .d (.int most)] ∧ (∃ (n : Nat) (a b c : Int), O = potL p a b c ∧ PotOk n a b c ∧ n ≤ 2 ^ 30 ∧ 1 ≤ lap ∧ lap ≤ 1440 ∧ 1 ≤ most ∧ most ≤ 60 ∧
  ∀ (ts : List Int) a' b' c', Good lap ts → (ts.length : Int) ≤ most → PotOk (n + 100) a' b' c' → P (.d (.tuple (dI ts))) (potL p a' b' c'))
theorem sc__law_times : FnScope ["pot", "lap", "most", "many", "way", "begin", "some", "at", "one"] ["pot", "lap", "most"] (defScope s__law_times) := ⟨rfl, rfl, rfl, by decide +kernel, rfl, by decide +kernel, by decide +kernel⟩
theorem C__law_times (B : Bas mg) (F : Fn K mg "_law_times" s__law_times ["pot", "lap", "most"]) (C__law_some : Cal P w K mg base "_law_some" S__law_some 2) (C__law_take : Cal P w K mg base "_law_take" S__law_take 1) : Cal P w K mg base "_law_times" S__law_times 3 := by
  refine Cal.mkF F sc__law_times (by rintro ss O P ⟨p, lap, most, rfl, _⟩; rfl) fun f cdv A outer s H E hr => ?_
  have hu := hr.units
  refine ⟨_, (pss_cons (ps_set (i := 3) sc__law_times.nd rfl (.inr rfl) (pe_op op_add pe_int (pe_cal C__law_take (hr.mono (by decide)) (by rfl) (pa_cons (pv 0) (pa_cons (pe_callB (cl_min2 rfl) (by rfl) B.m_min (by decide +kernel) (pa_cons (pv 2) (pa_cons (pv 1) pa_nil))) pa_nil)))))
 (pss_cons (ps_asg (pe_tup (pa_cons (pe_cal C__law_take (hr.mono (by decide)) (by rfl) (pa_cons (pv 0) (pa_cons pe_int pa_nil))) (pa_cons (pe_cal C__law_take (hr.mono (by decide)) (by rfl) (pa_cons (pv 0) (pa_cons (pv 1) pa_nil))) pa_nil))) (pg_tup rfl (pgs_cons (pg_name (i := 4) sc__law_times.nd rfl (.inl rfl)) (pgs_cons (pg_name (i := 5) sc__law_times.nd rfl (.inr rfl)) pgs_nil))))
 (pss_cons (ps_if (pt_cmpR (op_eqD hu) (pv 4) pe_int (nomark _)) (pss_one (ps_setLc (i := 6) (own := [("at", 7)]) (g := (gName 7)) (tt := tYes) (te := (tOp (rI (fun _ j => 0 < j) fun i j => .int (i % j)) (tOp (rI0 fun i j => .int (i + j)) (tVar 5) (tOp (rI CDiv fun i j => .int (i / j)) (tOp (rI CMul fun i j => .int (i * j)) (tVar 7) (tVar 1)) (tVar 3))) (tVar 1))) rfl sc__law_times.nd rfl rfl (sw_true rfl rfl rfl (by decide +kernel)) (pi_range1 (by rfl) B.m_range (pa_cons (pv 3) pa_nil)) (blkOk_by (own := [("at", 7)]) (N := ["pot", "lap", "most", "many", "way", "begin", "some", "at", "one"]) (by first | decide +kernel | kernel_rfl)) (fun _ _ _ _ _ => (pg_name (i := 7) sc__law_times.nd rfl (.inl rfl))) (fun _ _ _ _ _ => pts_nil) (fun _ _ _ _ _ => (pe_op op_mod (pe_op op_add (pv 5) (pe_op op_fdiv (pe_op op_mul (pv 7) (pv 1)) (pv 3))) (pv 1))))) (pss_one (ps_if (pt_cmpR (op_eqD hu) (pv 4) pe_int (nomark _)) (pss_one (ps_setLc (i := 6) (own := [("at", 7)]) (g := (gName 7)) (tt := tYes) (te := (tOp (rI (fun _ j => 0 < j) fun i j => .int (i % j)) (tOp (rI0 fun i j => .int (i + j)) (tVar 5) (tVar 7)) (tVar 1))) rfl sc__law_times.nd rfl rfl (sw_true rfl rfl rfl (by decide +kernel)) (pi_range1 (by rfl) B.m_range (pa_cons (pv 3) pa_nil)) (blkOk_by (own := [("at", 7)]) (N := ["pot", "lap", "most", "many", "way", "begin", "some", "at", "one"]) (by first | decide +kernel | kernel_rfl)) (fun _ _ _ _ _ => (pg_name (i := 7) sc__law_times.nd rfl (.inl rfl))) (fun _ _ _ _ _ => pts_nil) (fun _ _ _ _ _ => (pe_op op_mod (pe_op op_add (pv 5) (pv 7)) (pv 1))))) (pss_one (ps_set (i := 6) sc__law_times.nd rfl (.inl rfl) (pe_cal C__law_some (hr.mono (by decide)) (by rfl) (pa_cons (pv 0) (pa_cons (pe_listRg rfl (by rfl) B.m_list (prg_1 (by rfl) B.m_range (pv 1))) (pa_cons (pv 3) pa_nil)))))))))
 (pss_one (ps_ret (pe_callTy cl_tuple (by rfl) B.m_tuple (by decide +kernel) (pa_cons (pe_callB cl_sorted (by rfl) B.m_sorted (by decide +kernel) (pa_cons (pe_lc (own := [("one", 8)]) (g := (gName 8)) (tt := tYes) (te := (tCB (rOf K sIntOf) (tCons (tVar 8) tNil))) rfl sc__law_times.nd (pi_seq (pe_listKeys rfl (pe_callTy (cl_dictP rfl) (by rfl) B.m_dict (by decide +kernel) (pa_cons (pe_lc (own := [("one", 8)]) (g := (gName 8)) (tt := tYes) (te := (tTup (tCons (tVar 8) (tCons (tC (.bl true)) tNil)))) rfl sc__law_times.nd (pi_seq (pv 6)) (blkOk_by (own := [("one", 8)]) (N := ["pot", "lap", "most", "many", "way", "begin", "some", "at", "one"]) (by first | decide +kernel | kernel_rfl)) (fun _ _ _ _ _ => (pg_name (i := 8) sc__law_times.nd rfl (.inl rfl))) (fun _ _ _ _ _ => pts_nil) (fun _ _ _ _ _ => (pe_tup (pa_cons (pv 8) (pa_cons pe_bl pa_nil))))) pa_nil)) (by rfl) B.m_list (by decide +kernel))) (blkOk_by (own := [("one", 8)]) (N := ["pot", "lap", "most", "many", "way", "begin", "some", "at", "one"]) (by first | decide +kernel | kernel_rfl)) (fun _ _ _ _ _ => (pg_name (i := 8) sc__law_times.nd rfl (.inl rfl))) (fun _ _ _ _ _ => pts_nil) (fun _ _ _ _ _ => (pe_callTy cl_int (by rfl) B.m_int (by decide +kernel) (pa_cons (pv 8) pa_nil)))) pa_nil)) pa_nil))))))), ?_⟩
  try dsimp only [cxOf, Cx.nox]
  rintro ss O P ⟨p, lap, most, rfl, n, a, b, c, rfl, hp, hn, hl1, hl2, hm1, hm2, hP⟩
  change StW _ _ _ [_, _, _, .u, .u, .u, .u, .u, .u] _
  have hz : (4000 : Nat) ≤ sizeLine := Nat.le_of_ble_eq_true rfl
  walk_at "ev"
  refine ⟨n, a, b, c, rfl, hp, by omega, by omega, by omega, fun d a1 b1 c1 hd1 hd2 hp1 => ?_⟩
  walk_at "ev"
  refine ⟨n + 1, a1, b1, c1, rfl, hp1, by omega, by omega, by omega, fun way a2 b2 c2 hw1 hw2 hp2 => ?_⟩
  walk_at "ev"
  refine ⟨n + 2, a2, b2, c2, rfl, hp2, by omega, by omega, by omega, fun begin a3 b3 c3 hb1 hb2 hp3 => ?_⟩
  walk_at "en"
  refine StW.mono (P := { nx := fun ρ' O' => ∃ (xs : List Int) (a4 b4 c4 : Int), ρ' = [.v (.ref p), .d (.int lap), .d (.int most), .d (.int (1 + d)), .d (.int way), .d (.int begin), .d (.list (dI xs)), .u, .u] ∧ O' = potL p a4 b4 c4 ∧ PotOk (n + 100) a4 b4 c4 ∧ (xs.length : Int) = 1 + d ∧ ∀ t ∈ xs, 0 ≤ t ∧ t < lap, rt := P }) ?_ ?_ (fun _ _ h => h) (fun _ _ h => h) (fun _ _ h => h)
  · walk_at "ev"
    have hrl := rng_len (1 + d).toNat
    have hrl2 := rng_len lap.toNat
    refine ⟨fun _ => ?_, fun _ => ?_⟩
    · walk_at "ev"
      refine lc_xi (xs := rng (1 + d).toNat) (f := .int) (fun k => (begin + k * lap / (1 + d)) % lap) (go_name (by decide)) ?_
      walk_at "ev"
      rw [rgD_dI]
      refine ⟨rfl, rfl, by omega, fun x hx => ?_, ?_⟩
      · walk_at "ev"
      · refine ⟨_, a3, b3, c3, rfl, rfl, hp3.mono (by omega), by rw [List.length_map]; omega, fun t ht => ?_⟩
        obtain ⟨k, _, rfl⟩ := List.mem_map.mp ht
        exact ⟨Int.emod_nonneg _ (by omega), Int.emod_lt_of_pos _ (by omega)⟩
    · walk_at "ev"
      refine ⟨fun _ => ?_, fun _ => ?_⟩
      · walk_at "ev"
        refine lc_xi (xs := rng (1 + d).toNat) (f := .int) (fun k => (begin + k) % lap) (go_name (by decide)) ?_
        walk_at "ev"
        rw [rgD_dI]
        refine ⟨rfl, rfl, by omega, fun x hx => ?_, ?_⟩
        · walk_at "ev"
        · refine ⟨_, a3, b3, c3, rfl, rfl, hp3.mono (by omega), by rw [List.length_map]; omega, fun t ht => ?_⟩
          obtain ⟨k, _, rfl⟩ := List.mem_map.mp ht
          exact ⟨Int.emod_nonneg _ (by omega), Int.emod_lt_of_pos _ (by omega)⟩
      · walk_at "ev"
        refine ⟨n + 3, a3, b3, c3, rfl, hp3, by omega, by omega, by omega, by omega, fun ms a4 b4 c4 hm3 hm4 hp4 => ?_⟩
        walk_at "ev"
        refine ⟨ms, a4, b4, c4, rfl, rfl, hp4.mono (by omega), hm3, fun t ht => ?_⟩
        have := rng_mem.mp (hm4 t ht)
        omega
  · rintro _ _ ⟨xs, a4, b4, c4, rfl, rfl, hp4, hxl, hxr⟩
    walk_at "ev"
    refine lc_xiE (f := .int) (fun x => x) (go_name (by decide)) ?_
    walk_at "ev"
    refine lc_map (xs := xs) (f := .int) (fun n => .tuple [.int n, .bool true]) (go_name (by decide)) ?_
    walk_at "ev"
    refine ⟨fun x hx => ?_, ?_⟩
    · walk_at "ev"
    · walk_at "ev"
      intro ks h3 h4
      have hkl : ks.length ≤ xs.length := nodup_len _ _ h3 fun k hk => (h4 k).mp hk
      walk_at "ev"
      refine ⟨fun x hx => ?_, ?_⟩
      · walk_at "ev"
      · walk_at "ev"
        rw [List.map_id']
        walk_at "ev"
        intro ks' h5 h6
        rw [keys_eq hxr h3 h4 h5 h6]
        obtain ⟨hg, hgl⟩ := uni_good (lap := lap) (xs := xs) (by omega) hl2 (by omega) (by omega) hxr
        walk_at "ev"
        exact hP _ _ _ _ hg (by omega) hp4
end
end
section
open PySem PySem.Spec PyProof.Rows L2 AL
section
variable {P : Program} {w : World} {K : PySem.W.Frag} {mg : Str → Option Value} {base : Heap}
theorem chain_zip : ∀ (us : List Int) (s x : Int), ((s :: us).zip (us ++ [x])).map (fun p => p.2 - p.1) = chainG s (us ++ [x])
  | [], s, x => rfl
  | u :: us, s, x => by
    show (u - s) :: ((u :: us).zip (us ++ [x])).map _ = (u - s) :: chainG u (us ++ [x])
    rw [chain_zip us u x]
theorem gaps_zip {lap : Int} {ts : List Int} (g : Good lap ts) : (ts.zip (ts.drop 1 ++ [ts.getD 0 0 + lap])).map (fun p => p.2 - p.1) = gaps lap ts := by
  cases ts with
  | nil => exact absurd g.ne (Nat.lt_irrefl 0)
  | cons t r => exact (chain_zip r t (t + lap)).trans (gaps_chain g).symm
abbrev S__law_gaps : DS := fun ss O P => ∃ (lap : Int) (ts : List Int), ss = [.d (.int lap), .d (.tuple (dI ts))] ∧ Good lap ts ∧ P (.d (.list (dI (gaps lap ts)))) O
theorem sc__law_gaps : FnScope ["lap", "times", "one", "after"] ["lap", "times"] (defScope s__law_gaps) := ⟨rfl, rfl, rfl, by decide +kernel, rfl, by decide +kernel, by decide +kernel⟩
theorem C__law_gaps (B : Bas mg) (F : Fn K mg "_law_gaps" s__law_gaps ["lap", "times"])  : Cal P w K mg base "_law_gaps" S__law_gaps 1 := by
  refine Cal.mkF F sc__law_gaps (by rintro ss O P ⟨lap, ts, rfl, _⟩; rfl) fun f cdv A outer s H E hr => ?_
  have hu := hr.units
  refine ⟨_, (pss_one (ps_ret (pe_lc (own := [("one", 2), ("after", 3)]) (g := (gTup K 2 (gCons (gName 2) (gCons (gName 3) gNil)))) (tt := tYes) (te := (tOp (rI0 fun i j => .int (i - j)) (tVar 3) (tVar 2))) rfl sc__law_gaps.nd (pi_zipU (by rfl) B.m_zip (pa_cons (pv 1) (pa_cons (pe_op op_catA (pe_slice sl_any (pv 1) (po_some pe_int) po_none) (pe_tup (pa_cons (pe_op op_add (pe_ix ix_seq (pv 1) pe_int (fun _ _ => rfl)) (pv 0)) pa_nil))) pa_nil))) (blkOk_by (own := [("one", 2), ("after", 3)]) (N := ["lap", "times", "one", "after"]) (by first | decide +kernel | kernel_rfl)) (fun _ _ _ _ _ => (pg_tup rfl (pgs_cons (pg_name (i := 2) sc__law_gaps.nd rfl (.inl rfl)) (pgs_cons (pg_name (i := 3) sc__law_gaps.nd rfl (.inl rfl)) pgs_nil)))) (fun _ _ _ _ _ => pts_nil) (fun _ _ _ _ _ => (pe_op op_sub (pv 3) (pv 2)))))), ?_⟩
  try dsimp only [cxOf, Cx.nox]
  rintro ss O P ⟨lap, ts, rfl, hg, hP⟩
  change StW _ _ _ [_, _, .u, .u] _
  have hz : (4000 : Nat) ≤ sizeLine := Nat.le_of_ble_eq_true rfl
  have h3 := hg.ne
  have h4 := hg.le
  have hdl := dI_len ts
  walk_at "ev"
  refine lc_xi (xs := ts.zip (ts.drop 1 ++ [ts.getD 0 0 + lap])) (f := fun p => .tuple [.int p.1, .int p.2]) (fun p => p.2 - p.1) (go_tup (gso_cons gm_name (go_name (by decide)) (gso_cons gm_name (go_name (by decide)) gso_nil))) ?_
  walk_at "ev"
  rw [cut_from1]
  refine ⟨by rw [dI_len, List.length_drop]; simp; omega, ?_⟩
  walk_at "ev"
  rw [dI_snoc, zip_dI]
  refine ⟨rfl, rfl, ?_, fun x hx => ?_, ?_⟩
  · rw [List.length_zip, List.length_append, List.length_drop]
    omega
  · walk_at "ev"
  · rw [gaps_zip hg]
    exact hP
abbrev S__law_times_by : DS := fun ss O P => ∃ (ts : List Int) (y : Int), ss = [.d (.tuple (dI ts)), .d (.int y)] ∧ (ts.length ≤ 2000 ∧ 0 ≤ y ∧ y ≤ 5) ∧ P (.d (.tuple (dI (scale y ts)))) O
theorem sc__law_times_by : FnScope ["times", "by", "one"] ["times", "by"] (defScope s__law_times_by) := ⟨rfl, rfl, rfl, by decide +kernel, rfl, by decide +kernel, by decide +kernel⟩
theorem C__law_times_by (B : Bas mg) (F : Fn K mg "_law_times_by" s__law_times_by ["times", "by"])  : Cal P w K mg base "_law_times_by" S__law_times_by 1 := by
  refine Cal.mkF F sc__law_times_by (by rintro ss O P ⟨ts, y, rfl, _⟩; rfl) fun f cdv A outer s H E hr => ?_
  have hu := hr.units
  refine ⟨_, (pss_one (ps_ret (pe_callTy cl_tuple (by rfl) B.m_tuple (by decide +kernel) (pa_cons (pe_lc (own := [("one", 2)]) (g := (gName 2)) (tt := tYes) (te := (tCB (rOf K sIntOf) (tCons (tOp (rI CMul fun i j => .int (i * j)) (tVar 2) (tVar 1)) tNil))) rfl sc__law_times_by.nd (pi_seq (pv 0)) (blkOk_by (own := [("one", 2)]) (N := ["times", "by", "one"]) (by first | decide +kernel | kernel_rfl)) (fun _ _ _ _ _ => (pg_name (i := 2) sc__law_times_by.nd rfl (.inl rfl))) (fun _ _ _ _ _ => pts_nil) (fun _ _ _ _ _ => (pe_callTy cl_int (by rfl) B.m_int (by decide +kernel) (pa_cons (pe_op op_mul (pv 2) (pv 1)) pa_nil)))) pa_nil)))), ?_⟩
  try dsimp only [cxOf, Cx.nox]
  rintro ss O P ⟨ts, y, rfl, ⟨h1, h2, h3⟩, hP⟩
  change StW _ _ _ [_, _, .u] _
  have hz : (4000 : Nat) ≤ sizeLine := Nat.le_of_ble_eq_true rfl
  walk_at "ev"
  refine lc_xi (xs := ts) (f := .int) (fun t => t * y) (go_name (by decide)) ?_
  walk_at "ev"
  refine ⟨fun x hx => ?_, ?_⟩
  · walk_at "ev"
  · walk_at "ev"
    exact hP
abbrev S__law_mirror : DS := fun ss O P => ∃ (lap : Int) (ts : List Int), ss = [.d (.int lap), .d (.tuple (dI ts))] ∧ (0 < lap ∧ ts.length ≤ 2000) ∧ P (.d (.tuple (dI (mirror lap ts)))) O
theorem sc__law_mirror : FnScope ["lap", "times", "one"] ["lap", "times"] (defScope s__law_mirror) := ⟨rfl, rfl, rfl, by decide +kernel, rfl, by decide +kernel, by decide +kernel⟩
theorem C__law_mirror (B : Bas mg) (F : Fn K mg "_law_mirror" s__law_mirror ["lap", "times"])  : Cal P w K mg base "_law_mirror" S__law_mirror 1 := by
  refine Cal.mkF F sc__law_mirror (by rintro ss O P ⟨lap, ts, rfl, _⟩; rfl) fun f cdv A outer s H E hr => ?_
  have hu := hr.units
  refine ⟨_, (pss_one (ps_ret (pe_callTy cl_tuple (by rfl) B.m_tuple (by decide +kernel) (pa_cons (pe_callB cl_sorted (by rfl) B.m_sorted (by decide +kernel) (pa_cons (pe_lc (own := [("one", 2)]) (g := (gName 2)) (tt := tYes) (te := (tCB (rOf K sIntOf) (tCons (tOp (rI (fun _ j => 0 < j) fun i j => .int (i % j)) (tUn (rU fun i => .int (-i)) (tVar 2)) (tVar 0)) tNil))) rfl sc__law_mirror.nd (pi_seq (pv 1)) (blkOk_by (own := [("one", 2)]) (N := ["lap", "times", "one"]) (by first | decide +kernel | kernel_rfl)) (fun _ _ _ _ _ => (pg_name (i := 2) sc__law_mirror.nd rfl (.inl rfl))) (fun _ _ _ _ _ => pts_nil) (fun _ _ _ _ _ => (pe_callTy cl_int (by rfl) B.m_int (by decide +kernel) (pa_cons (pe_op op_mod (pe_un un_neg (pv 2)) (pv 0)) pa_nil)))) pa_nil)) pa_nil)))), ?_⟩
  try dsimp only [cxOf, Cx.nox]
  rintro ss O P ⟨lap, ts, rfl, ⟨h1, h2⟩, hP⟩
  change StW _ _ _ [_, _, .u] _
  have hz : (4000 : Nat) ≤ sizeLine := Nat.le_of_ble_eq_true rfl
  walk_at "ev"
  refine lc_xi (xs := ts) (f := .int) (fun t => (-t) % lap) (go_name (by decide)) ?_
  walk_at "ev"
  refine ⟨fun x hx => ?_, ?_⟩
  · walk_at "ev"
  · walk_at "ev"
    intro ns h5 h6
    rw [sortI_eq h5 h6]
    walk_at "ev"
    exact hP
end
end
section
open PySem PySem.Spec PyProof.Rows L2 AL
section
variable {P : Program} {w : World} {K : PySem.W.Frag} {mg : Str → Option Value} {base : Heap}
theorem cut_mid (ds : List PyData) (k m : Nat) : AL.cutD ds (some (k : Int)) (some ((k : Int) + m)) = (ds.drop k).take m := by
  unfold AL.cutD
  show (ds.drop (if (k : Int) < 0 then ((k : Int) + ds.length).toNat else min (k : Int).toNat ds.length)).take ((if (k : Int) + m < 0 then ((k : Int) + m + ds.length).toNat else min ((k : Int) + m).toNat ds.length) - (if (k : Int) < 0 then ((k : Int) + ds.length).toNat else min (k : Int).toNat ds.length)) = _
  rw [if_neg (by omega), if_neg (by omega)]
  have e1 : (k : Int).toNat = k := by omega
  have e2 : ((k : Int) + m).toNat = k + m := by omega
  rw [e1, e2]
  by_cases h : k ≤ ds.length
  · rw [Nat.min_eq_left h]
    by_cases h2 : k + m ≤ ds.length
    · rw [Nat.min_eq_left h2]
      congr 1
      omega
    · rw [Nat.min_eq_right (by omega), List.take_of_length_le (by rw [List.length_drop]; omega), List.take_of_length_le (by rw [List.length_drop]; omega)]
  · rw [Nat.min_eq_right (show ds.length ≤ k + m by omega), Nat.min_eq_right (show ds.length ≤ k by omega), List.drop_of_length_le (Nat.le_refl _), List.drop_of_length_le (by omega), List.take_nil, List.take_nil]
abbrev S__law_is_great_right : DS := fun ss O P => ∃ (p : Addr) (lap : Int) (ts : List Int) (y : Nat), ss = [.v (.ref p), .d (.int lap), .d (.tuple (dI ts)), .d (.int (y : Int))] ∧ (∃ (n : Nat) (a b c : Int), O = potL p a b c ∧ PotOk n a b c ∧ n ≤ 2 ^ 30 ∧ Good lap ts ∧ 2 ≤ y ∧ y ≤ 5 ∧ lap * y ≤ 1440 ∧
  ∀ a' b' c', PotOk (n + 100) a' b' c' → P (.d (.bool true)) (potL p a' b' c'))
theorem sc__law_is_great_right : FnScope ["pot", "lap", "times", "by", "great", "mean", "due", "minute", "part", "one", "other", "counts", "wide", "at", "many"] ["pot", "lap", "times", "by"] (defScope s__law_is_great_right) := ⟨rfl, rfl, rfl, by decide +kernel, rfl, by decide +kernel, by decide +kernel⟩
theorem C__law_is_great_right (B : Bas mg) (F : Fn K mg "_law_is_great_right" s__law_is_great_right ["pot", "lap", "times", "by"]) (C__law_fraction : Cal P w K mg base "_law_fraction" S__law_fraction 1) (C__law_take : Cal P w K mg base "_law_take" S__law_take 1) (C__law_times_by : Cal P w K mg base "_law_times_by" S__law_times_by 1) (C_half_wait : Cal P w K mg base "half_wait" S_half_wait 5) (C_how_long : Cal P w K mg base "how_long" S_how_long 5) (C_mean_wait : Cal P w K mg base "mean_wait" S_mean_wait 5) (C_wait_at : Cal P w K mg base "wait_at" S_wait_at 5) (C_worst_wait : Cal P w K mg base "worst_wait" S_worst_wait 5) : Cal P w K mg base "_law_is_great_right" S__law_is_great_right 6 := by
  refine Cal.mkF F sc__law_is_great_right (by rintro ss O P ⟨p, lap, ts, y, rfl, _⟩; rfl) fun f cdv A outer s H E hr => ?_
  have hu := hr.units
  refine ⟨_, (pss_cons (ps_set (i := 4) sc__law_is_great_right.nd rfl (.inl rfl) (pe_cal C__law_times_by (hr.mono (by decide)) (by rfl) (pa_cons (pv 2) (pa_cons (pv 3) pa_nil))))
 (pss_cons (ps_set (i := 5) sc__law_is_great_right.nd rfl (.inl rfl) (pe_cal C_mean_wait (hr.mono (by decide)) (by rfl) (pa_cons (pv 1) (pa_cons (pv 2) pa_nil))))
 (pss_cons (ps_set (i := 6) sc__law_is_great_right.nd rfl (.inl rfl) (pe_cal C__law_fraction (hr.mono (by decide)) (by rfl) (pa_cons (pe_op op_add (pe_op op_mul (pe_op op_mul pe_int (pv 3)) (pe_ix ix_seq (pv 5) pe_int (fun _ _ => rfl))) (pe_op op_mul (pe_op op_sub (pv 3) pe_int) (pe_ix ix_seq (pv 5) pe_int (fun _ _ => rfl)))) (pa_cons (pe_op op_mul pe_int (pe_ix ix_seq (pv 5) pe_int (fun _ _ => rfl))) pa_nil))))
 (pss_cons (ps_if (pt_cmpR (op_neD hu) (pe_cal C_mean_wait (hr.mono (by decide)) (by rfl) (pa_cons (pe_op op_mul (pv 1) (pv 3)) (pa_cons (pv 4) pa_nil))) (pv 6) (nomark _)) (pss_one (ps_ret pe_bl)) pss_nil)
 (pss_cons (ps_if (pt_cmpR (op_neD hu) (pe_ix ix_seq (pe_cal C_worst_wait (hr.mono (by decide)) (by rfl) (pa_cons (pe_op op_mul (pv 1) (pv 3)) (pa_cons (pv 4) pa_nil))) pe_int (fun _ _ => rfl)) (pe_op op_sub (pe_op op_add (pe_op op_mul (pv 3) (pe_ix ix_seq (pe_cal C_worst_wait (hr.mono (by decide)) (by rfl) (pa_cons (pv 1) (pa_cons (pv 2) pa_nil))) pe_int (fun _ _ => rfl))) (pv 3)) pe_int) (nomark _)) (pss_one (ps_ret pe_bl)) pss_nil)
 (pss_cons (ps_set (i := 7) sc__law_is_great_right.nd rfl (.inl rfl) (pe_callTy cl_int (by rfl) B.m_int (by decide +kernel) (pa_cons (pe_cal C__law_take (hr.mono (by decide)) (by rfl) (pa_cons (pv 0) (pa_cons (pv 1) pa_nil))) pa_nil)))
 (pss_cons (ps_if (pt_cmpR (op_neD hu) (pe_cal C_wait_at (hr.mono (by decide)) (by rfl) (pa_cons (pe_op op_mul (pv 1) (pv 3)) (pa_cons (pv 4) (pa_cons (pe_op op_mul (pv 7) (pv 3)) pa_nil)))) (pe_op op_mul (pv 3) (pe_cal C_wait_at (hr.mono (by decide)) (by rfl) (pa_cons (pv 1) (pa_cons (pv 2) (pa_cons (pv 7) pa_nil))))) (nomark _)) (pss_one (ps_ret pe_bl)) pss_nil)
 (pss_cons (ps_set (i := 8) sc__law_is_great_right.nd rfl (.inl rfl) (pe_tup (pa_cons pe_int (pa_cons (pe_callTy cl_int (by rfl) B.m_int (by decide +kernel) (pa_cons (pe_op op_add pe_int (pe_cal C__law_take (hr.mono (by decide)) (by rfl) (pa_cons (pv 0) (pa_cons pe_int pa_nil)))) pa_nil)) pa_nil))))
 (pss_cons (ps_par (i := 9) (j := 10) rfl sc__law_is_great_right.nd rfl rfl (by decide) rfl rfl (pa_cons (pe_cal C_half_wait (hr.mono (by decide)) (by rfl) (pa_cons (pv 1) (pa_cons (pv 2) (pa_cons (pv 8) pa_nil)))) (pa_cons (pe_cal C_half_wait (hr.mono (by decide)) (by rfl) (pa_cons (pe_op op_mul (pv 1) (pv 3)) (pa_cons (pv 4) (pa_cons (pv 8) pa_nil)))) pa_nil)) (by rfl))
 (pss_cons (ps_if (pt_not (pt_chain op_le op_le (pe_op op_mul (pv 3) (pv 9)) (pv 10) (pe_op op_sub (pe_op op_add (pe_op op_mul (pv 3) (pv 9)) (pv 3)) pe_int))) (pss_one (ps_ret pe_bl)) pss_nil)
 (pss_cons (ps_asg (pe_tup (pa_cons (pe_cal C_how_long (hr.mono (by decide)) (by rfl) (pa_cons (pv 1) (pa_cons (pv 2) pa_nil))) (pa_cons (pe_cal C_how_long (hr.mono (by decide)) (by rfl) (pa_cons (pe_op op_mul (pv 1) (pv 3)) (pa_cons (pv 4) pa_nil))) pa_nil))) (pg_tup rfl (pgs_cons (pg_name (i := 11) sc__law_is_great_right.nd rfl (.inl rfl)) (pgs_cons (pg_name (i := 12) sc__law_is_great_right.nd rfl (.inr rfl)) pgs_nil))))
 (pss_one (ps_ret (pe_cmpR (op_eqD hu) (pe_lc (own := [("at", 13)]) (g := (gName 13)) (tt := tYes) (te := (tCB (rOf K sSum) (tCons (tSl (fun x lo hi H Q => rSlL K x lo hi H Q ∨ rSlA K x lo hi H Q) (tVar 12) (tPart (tOp (rI CMul fun i j => .int (i * j)) (tVar 13) (tVar 3))) (tPart (tOp (rI0 fun i j => .int (i + j)) (tOp (rI CMul fun i j => .int (i * j)) (tVar 13) (tVar 3)) (tVar 3)))) tNil))) rfl sc__law_is_great_right.nd (pi_range1 (by rfl) B.m_range (pa_cons (pe_callB cl_len (by rfl) B.m_len (by decide +kernel) (pa_cons (pv 11) pa_nil)) pa_nil)) (blkOk_by (own := [("at", 13)]) (N := ["pot", "lap", "times", "by", "great", "mean", "due", "minute", "part", "one", "other", "counts", "wide", "at", "many"]) (by first | decide +kernel | kernel_rfl)) (fun _ _ _ _ _ => (pg_name (i := 13) sc__law_is_great_right.nd rfl (.inl rfl))) (fun _ _ _ _ _ => pts_nil) (fun _ _ _ _ _ => (pe_callB (cl_sum rfl) (by rfl) B.m_sum (by decide +kernel) (pa_cons (pe_slice sl_any (pv 12) (po_some (pe_op op_mul (pv 13) (pv 3))) (po_some (pe_op op_add (pe_op op_mul (pv 13) (pv 3)) (pv 3)))) pa_nil)))) (pe_lc (own := [("many", 14)]) (g := (gName 14)) (tt := tYes) (te := (tOp (rI CMul fun i j => .int (i * j)) (tVar 3) (tVar 14))) rfl sc__law_is_great_right.nd (pi_seq (pv 11)) (blkOk_by (own := [("many", 14)]) (N := ["pot", "lap", "times", "by", "great", "mean", "due", "minute", "part", "one", "other", "counts", "wide", "at", "many"]) (by first | decide +kernel | kernel_rfl)) (fun _ _ _ _ _ => (pg_name (i := 14) sc__law_is_great_right.nd rfl (.inl rfl))) (fun _ _ _ _ _ => pts_nil) (fun _ _ _ _ _ => (pe_op op_mul (pv 3) (pv 14)))) (nomark _))))))))))))))), ?_⟩
  try dsimp only [cxOf, Cx.nox]
  rintro ss O P ⟨p, lap, ts, y, rfl, n, a, b, c, rfl, hp, hn, g, hy1, hy2, hly, hP⟩
  change StW _ _ _ [_, _, _, _, .u, .u, .u, .u, .u, .u, .u, .u, .u, .u, .u] _
  have hz : (4000 : Nat) ≤ sizeLine := Nat.le_of_ble_eq_true rfl
  have hla := g.l1
  have hlb := g.l2
  have g2 := good_scale g (y := y) (by omega) hly
  have hle := g.le
  obtain ⟨m1, m2, m3, m4, _⟩ := mean_facts g
  have hb1 : 2 * (y : Int) * (meanP lap ts).1 ≤ 2 * 5 * 2 ^ 23 := Int.mul_le_mul (by omega) m2 m1 (by decide)
  have hb2 : 0 ≤ 2 * (y : Int) * (meanP lap ts).1 := Int.mul_nonneg (by omega) m1
  have hb3 : ((y : Int) - 1) * (meanP lap ts).2 ≤ 4 * 2880 := Int.mul_le_mul (by omega) m4 (by omega) (by decide)
  have hb4 : 0 ≤ ((y : Int) - 1) * (meanP lap ts).2 := Int.mul_nonneg (by omega) (by omega)
  walk_at "ev"
  rw [mean_scale g (by omega) hly, eqv_prD]
  walk_at "ev"
  rw [worst_scale g (by omega)]
  walk_at "ev"
  refine ⟨n, a, b, c, rfl, hp, by omega, by omega, by omega, fun m a1 b1 c1 hm1 hm2 hp1 => ?_⟩
  have hmy1 : 0 ≤ m * (y : Int) := Int.mul_nonneg hm1 (by omega)
  have hmy2 : m * (y : Int) < lap * y := Int.mul_lt_mul_of_pos_right hm2 (by omega)
  walk_at "ev"
  rw [wait_scale (by omega) g.ne, Int.mul_comm]
  walk_at "ev"
  refine ⟨n + 1, a1, b1, c1, rfl, hp1, by omega, by omega, by omega, fun d a2 b2 c2 hd1 hd2 hp2 => ?_⟩
  walk_at "ev"
  have hh := half_scale g (y := y) (by omega) hly (x := 1) (z := 1 + d) (by omega) (by omega)
  refine ⟨⟨g, by omega, by omega, Int.one_gcd, by omega, by omega⟩, ?_⟩
  walk_at "ev"
  refine ⟨⟨g2, by omega, by omega, Int.one_gcd, by omega, by omega⟩, ?_⟩
  walk_at "ev"
  clear hh
  obtain ⟨t1, t2⟩ := told_bd g
  obtain ⟨t3, t4⟩ := told_bd g2
  have hts : ∀ k : Nat, k < (told lap ts).length → (((told (lap * y) (scale y ts)).drop (k * y)).take y).sum = y * (told lap ts).getD k 0 := fun k hk => by
    have hk2 : k < MM lap ts := by rw [← told_len]; exact hk
    rw [told_scale g (by omega) hly hk2, List.getD_eq_getElem?_getD, told_get hk2]
    rfl
  have hP2 := hP
  clear hP
  generalize told lap ts = T1 at *
  generalize told (lap * y) (scale y ts) = T2 at *
  have hcl := dI_len T1
  have hcl2 := dI_len T2
  refine lc_xi (xs := rng T1.length) (f := .int) (fun at_ => ((T2.drop (at_.toNat * y)).take y).sum) (go_name (by decide)) ?_
  iterate 9 walk_at "e1"
  have hrl := rng_len T1.length
  refine ⟨_, rfl, by omega, by omega, ?_⟩
  rw [rgD_dI, Int.toNat_natCast, hcl]
  refine ⟨rfl, rfl, by omega, fun x hx => ?_, ?_⟩
  · have hxr := rng_mem.mp hx
    obtain ⟨k, rfl⟩ : ∃ k : Nat, x = (k : Int) := ⟨x.toNat, by omega⟩
    walk_at "ev"
    rw [show (k : Int) * (y : Int) = ((k * y : Nat) : Int) by rw [Int.natCast_mul], cut_mid, dI_drop, dI_take]
    walk_at "ev"
    refine ⟨_, (T2.drop (k * y)).take y, rfl, .inr ⟨rfl, sum_long (by rw [List.length_take]; omega) fun x hx => ?_⟩, rfl, rfl⟩
    have := t4 x (List.mem_of_mem_drop (List.mem_of_mem_take hx))
    omega
  · refine ⟨_, rfl, shaped_dI _, ?_⟩
    have e1 : (rng T1.length).map (fun at_ => ((T2.drop (at_.toNat * y)).take y).sum) = T1.map fun x => (y : Int) * x := by
      refine List.ext_getElem (by rw [List.length_map, List.length_map, rng_len]) fun k hk1 hk2 => ?_
      rw [List.length_map, rng_len] at hk1
      rw [List.getElem_map, List.getElem_map]
      have e2 : (rng T1.length)[k]'(by rw [rng_len]; exact hk1) = (k : Int) := by
        have := rng_get hk1
        rw [List.getElem?_eq_getElem (by rw [rng_len]; exact hk1)] at this
        exact Option.some.inj this
      rw [e2, Int.toNat_natCast, hts k hk1, List.getD_eq_getElem?_getD, List.getElem?_eq_getElem hk1]
      rfl
    rw [e1]
    refine lc_xi (xs := T1) (f := .int) (fun x => (y : Int) * x) (go_name (by decide)) ?_
    refine ei_seq (ev_vd rfl ⟨_, .inr rfl, rfl, rfl, by omega, fun x hx => ?_, ?_⟩)
    · walk_at "ev"
    · refine ⟨_, rfl, shaped_dI _, ?_⟩
      rw [eqv_dI]
      exact hP2 _ _ _ (hp2.mono (by omega))
end
end
section
open PySem PySem.Spec PyProof.Rows L2 AL
section
variable {P : Program} {w : World} {K : PySem.W.Frag} {mg : Str → Option Value} {base : Heap}
abbrev S__law_are_two_right : DS := fun ss O P => ∃ (p : Addr) (lap : Int) (one other : List Int) (y : Nat), ss = [.v (.ref p), .d (.int lap), .d (.tuple (dI one)), .d (.tuple (dI other)), .d (.int (y : Int))] ∧ (∃ (n : Nat) (a b c : Int), O = potL p a b c ∧ PotOk n a b c ∧ n ≤ 2 ^ 30 ∧ Good lap one ∧ Good lap other ∧ 2 ≤ y ∧ y ≤ 5 ∧ lap * y ≤ 1440 ∧
  ∀ a' b' c', PotOk (n + 100) a' b' c' → P (.d (.bool true)) (potL p a' b' c'))
theorem sc__law_are_two_right : FnScope ["pot", "lap", "one", "other", "by", "change", "mean", "wide", "shift", "least", "told"] ["pot", "lap", "one", "other", "by"] (defScope s__law_are_two_right) := ⟨rfl, rfl, rfl, by decide +kernel, rfl, by decide +kernel, by decide +kernel⟩
theorem C__law_are_two_right (B : Bas mg) (F : Fn K mg "_law_are_two_right" s__law_are_two_right ["pot", "lap", "one", "other", "by"]) (C__law_fraction : Cal P w K mg base "_law_fraction" S__law_fraction 1) (C__law_is_less : Cal P w K mg base "_law_is_less" S__law_is_less 1) (C__law_take : Cal P w K mg base "_law_take" S__law_take 1) (C__law_times_by : Cal P w K mg base "_law_times_by" S__law_times_by 1) (C_best_shift : Cal P w K mg base "best_shift" S_best_shift 6) (C_change_wait : Cal P w K mg base "change_wait" S_change_wait 6) (C_mean_wait : Cal P w K mg base "mean_wait" S_mean_wait 5) (C_together : Cal P w K mg base "together" S_together 6) : Cal P w K mg base "_law_are_two_right" S__law_are_two_right 7 := by
  refine Cal.mkF F sc__law_are_two_right (by rintro ss O P ⟨p, lap, one, other, y, rfl, _⟩; rfl) fun f cdv A outer s H E hr => ?_
  have hu := hr.units
  refine ⟨_, (pss_cons (ps_set (i := 5) sc__law_are_two_right.nd rfl (.inl rfl) (pe_callTy cl_int (by rfl) B.m_int (by decide +kernel) (pa_cons (pe_cal C__law_take (hr.mono (by decide)) (by rfl) (pa_cons (pv 0) (pa_cons (pe_op op_add pe_int (pe_op op_fdiv pe_int (pv 4))) pa_nil))) pa_nil)))
 (pss_cons (ps_set (i := 6) sc__law_are_two_right.nd rfl (.inl rfl) (pe_cal C_change_wait (hr.mono (by decide)) (by rfl) (pa_cons (pv 1) (pa_cons (pv 2) (pa_cons (pv 3) (pa_cons (pv 5) pa_nil))))))
 (pss_cons (ps_set (i := 7) sc__law_are_two_right.nd rfl (.inl rfl) (pe_cal C_change_wait (hr.mono (by decide)) (by rfl) (pa_cons (pe_op op_mul (pv 1) (pv 4)) (pa_cons (pe_cal C__law_times_by (hr.mono (by decide)) (by rfl) (pa_cons (pv 2) (pa_cons (pv 4) pa_nil))) (pa_cons (pe_cal C__law_times_by (hr.mono (by decide)) (by rfl) (pa_cons (pv 3) (pa_cons (pv 4) pa_nil))) (pa_cons (pe_op op_mul (pv 5) (pv 4)) pa_nil))))))
 (pss_cons (ps_if (pt_cmpR (op_neD hu) (pv 7) (pe_cal C__law_fraction (hr.mono (by decide)) (by rfl) (pa_cons (pe_op op_mul (pv 4) (pe_ix ix_seq (pv 6) pe_int (fun _ _ => rfl))) (pa_cons (pe_ix ix_seq (pv 6) pe_int (fun _ _ => rfl)) pa_nil))) (nomark _)) (pss_one (ps_ret pe_bl)) pss_nil)
 (pss_cons (ps_asg (pe_cal C_best_shift (hr.mono (by decide)) (by rfl) (pa_cons (pv 1) (pa_cons (pv 2) (pa_cons (pv 3) (pa_cons (pv 5) pa_nil))))) (pg_tup rfl (pgs_cons (pg_name (i := 8) sc__law_are_two_right.nd rfl (.inl rfl)) (pgs_cons (pg_name (i := 9) sc__law_are_two_right.nd rfl (.inl rfl)) pgs_nil))))
 (pss_cons (ps_set (i := 10) sc__law_are_two_right.nd rfl (.inl rfl) (pe_cal C_best_shift (hr.mono (by decide)) (by rfl) (pa_cons (pe_op op_mul (pv 1) (pv 4)) (pa_cons (pe_cal C__law_times_by (hr.mono (by decide)) (by rfl) (pa_cons (pv 2) (pa_cons (pv 4) pa_nil))) (pa_cons (pe_cal C__law_times_by (hr.mono (by decide)) (by rfl) (pa_cons (pv 3) (pa_cons (pv 4) pa_nil))) (pa_cons (pe_op op_mul (pv 5) (pv 4)) pa_nil))))))
 (pss_cons (ps_if (pt_cmpR (op_neD hu) (pv 10) (pe_tup (pa_cons (pe_op op_mul (pv 8) (pv 4)) (pa_cons (pe_cal C__law_fraction (hr.mono (by decide)) (by rfl) (pa_cons (pe_op op_mul (pv 4) (pe_ix ix_seq (pv 9) pe_int (fun _ _ => rfl))) (pa_cons (pe_ix ix_seq (pv 9) pe_int (fun _ _ => rfl)) pa_nil))) pa_nil))) (nomark _)) (pss_one (ps_ret pe_bl)) pss_nil)
 (pss_cons (ps_set (i := 10) sc__law_are_two_right.nd rfl (.inl rfl) (pe_cal C_together (hr.mono (by decide)) (by rfl) (pa_cons (pv 1) (pa_cons (pe_slice sl_any (pv 2) po_none (po_some pe_int)) (pa_cons (pe_slice sl_any (pv 3) po_none (po_some pe_int)) pa_nil)))))
 (pss_one (ps_ret (pe_and (pe_not (pe_cal C__law_is_less (hr.mono (by decide)) (by rfl) (pa_cons (pe_cal C_mean_wait (hr.mono (by decide)) (by rfl) (pa_cons (pv 1) (pa_cons (pe_slice sl_any (pv 2) po_none (po_some pe_int)) pa_nil))) (pa_cons (pe_ix ix_seq (pv 10) pe_int (fun _ _ => rfl)) pa_nil)))) (pe_one (pe_not (pe_cal C__law_is_less (hr.mono (by decide)) (by rfl) (pa_cons (pe_cal C_mean_wait (hr.mono (by decide)) (by rfl) (pa_cons (pv 1) (pa_cons (pe_slice sl_any (pv 3) po_none (po_some pe_int)) pa_nil))) (pa_cons (pe_ix ix_seq (pv 10) pe_int (fun _ _ => rfl)) pa_nil)))))))))))))))), ?_⟩
  try dsimp only [cxOf, Cx.nox]
  rintro ss O P ⟨p, lap, one, other, y, rfl, n, a, b, c, rfl, hp, hn, g1, g2, hy1, hy2, hly, hP⟩
  change StW _ _ _ [_, _, _, _, _, .u, .u, .u, .u, .u, .u] _
  have hz : (4000 : Nat) ≤ sizeLine := Nat.le_of_ble_eq_true rfl
  have hla := g1.l1
  have hlb := g1.l2
  have s1 := good_scale g1 (y := y) (by omega) hly
  have s2 := good_scale g2 (y := y) (by omega) hly
  have hle := g1.le
  have hle2 := g2.le
  have hdv : (1440 : Int) / y * y ≤ 1440 := Int.ediv_mul_le _ (by omega)
  have hdv2 : 0 ≤ (1440 : Int) / y := Int.ediv_nonneg (by decide) (by omega)
  have hdv3 : (1440 : Int) / y ≤ 1440 := by
    have := Int.mul_le_mul_of_nonneg_left (show (1 : Int) ≤ y by omega) hdv2
    omega
  walk_at "ev"
  refine ⟨n, a, b, c, rfl, hp, by omega, by omega, by omega, fun ch a1 b1 c1 hc1 hc2 hp1 => ?_⟩
  have hcy : ch * (y : Int) ≤ 1440 := by
    have := Int.mul_le_mul_of_nonneg_right (show ch ≤ 1440 / y by omega) (show (0 : Int) ≤ y by omega)
    omega
  have hcy0 : 0 ≤ ch * (y : Int) := Int.mul_nonneg hc1 (by omega)
  have cb := change_num (c := ch) g1 g2
  have cb2 : (y : Int) * (changeP lap one other ch).1 ≤ 5 * 2 ^ 20 := Int.mul_le_mul (by omega) cb.2.1 cb.1 (by decide)
  have cb3 : 0 ≤ (y : Int) * (changeP lap one other ch).1 := Int.mul_nonneg (by omega) cb.1
  walk_at "ev"
  rw [change_scale g1 g2 (by omega), eqv_prD]
  walk_at "ev"
  intro j m hL
  clear cb cb2 cb3
  walk_at "ev"
  intro j2 m2 hL2
  obtain ⟨e1, e2⟩ := best_scale g1 g2 (by omega) hL hL2
  have lb := least_bd g1 g2 hL
  have lb2 : (y : Int) * m.1 ≤ 5 * 2 ^ 20 := Int.mul_le_mul (by omega) lb.2.1 lb.1 (by decide)
  have lb3 : 0 ≤ (y : Int) * m.1 := Int.mul_nonneg (by omega) lb.1
  clear hL hL2
  walk_at "ev"
  subst e2
  rw [e1, eqv_pr2]
  clear lb lb2 lb3 e1
  walk_at "ev"
  rw [cut6, cut6]
  have gt1 := good_take g1 6 (by omega)
  have gt2 := good_take g2 6 (by omega)
  have hl1 : (one.take 6).length ≤ 6 := by rw [List.length_take]; omega
  have hl2 : (other.take 6).length ≤ 6 := by rw [List.length_take]; omega
  generalize ho1 : one.take 6 = o1 at *
  generalize ho2 : other.take 6 = o2 at *
  walk_at "ev"
  intro j3 m3 hL3
  obtain ⟨q1, q2, q3, q4⟩ := join_le gt1 gt2 (by omega) hL3
  have d1 := meanP_den o1 hla hlb
  have d2 := meanP_den o2 hla hlb
  clear hL3
  unfold ltP at q1 q2
  walk_at "ev"
  rw [cut6, ho1]
  refine ⟨lap, o1, rfl, gt1, ?_⟩
  walk_at "ev"
  rw [cut6, ho2]
  refine ⟨lap, o2, rfl, gt2, ?_⟩
  walk_at "ev"
  rw [decide_eq_false q2]
  exact hP _ _ _ (hp1.mono (by omega))
abbrev S__law_is_mirror_right : DS := fun ss O P => ∃ (p : Addr) (lap : Int) (ts : List Int), ss = [.v (.ref p), .d (.int lap), .d (.tuple (dI ts))] ∧ (∃ (n : Nat) (a b c : Int), O = potL p a b c ∧ PotOk n a b c ∧ n ≤ 2 ^ 30 ∧ Good lap ts ∧
  ∀ a' b' c', PotOk (n + 100) a' b' c' → P (.d (.bool true)) (potL p a' b' c'))
theorem sc__law_is_mirror_right : FnScope ["pot", "lap", "times", "far", "least", "late"] ["pot", "lap", "times"] (defScope s__law_is_mirror_right) := ⟨rfl, rfl, rfl, by decide +kernel, rfl, by decide +kernel, by decide +kernel⟩
theorem C__law_is_mirror_right (B : Bas mg) (F : Fn K mg "_law_is_mirror_right" s__law_is_mirror_right ["pot", "lap", "times"]) (C__law_gaps : Cal P w K mg base "_law_gaps" S__law_gaps 1) (C__law_mirror : Cal P w K mg base "_law_mirror" S__law_mirror 1) (C__law_take : Cal P w K mg base "_law_take" S__law_take 1) (C_at_worst : Cal P w K mg base "at_worst" S_at_worst 6) (C_held : Cal P w K mg base "held" S_held 6) (C_how_long : Cal P w K mg base "how_long" S_how_long 5) (C_mean_wait : Cal P w K mg base "mean_wait" S_mean_wait 5) (C_worst_wait : Cal P w K mg base "worst_wait" S_worst_wait 5) : Cal P w K mg base "_law_is_mirror_right" S__law_is_mirror_right 7 := by
  refine Cal.mkF F sc__law_is_mirror_right (by rintro ss O P ⟨p, lap, ts, rfl, _⟩; rfl) fun f cdv A outer s H E hr => ?_
  have hu := hr.units
  refine ⟨_, (pss_cons (ps_set (i := 3) sc__law_is_mirror_right.nd rfl (.inl rfl) (pe_cal C__law_mirror (hr.mono (by decide)) (by rfl) (pa_cons (pv 1) (pa_cons (pv 2) pa_nil))))
 (pss_cons (ps_if (PW.pt (pw_or (pt_cmpR (op_neD hu) (pe_cal C_mean_wait (hr.mono (by decide)) (by rfl) (pa_cons (pv 1) (pa_cons (pv 3) pa_nil))) (pe_cal C_mean_wait (hr.mono (by decide)) (by rfl) (pa_cons (pv 1) (pa_cons (pv 2) pa_nil))) (nomark _)) (pw_or1 (pt_cmpR (op_neD hu) (pe_ix ix_seq (pe_cal C_worst_wait (hr.mono (by decide)) (by rfl) (pa_cons (pv 1) (pa_cons (pv 3) pa_nil))) pe_int (fun _ _ => rfl)) (pe_ix ix_seq (pe_cal C_worst_wait (hr.mono (by decide)) (by rfl) (pa_cons (pv 1) (pa_cons (pv 2) pa_nil))) pe_int (fun _ _ => rfl)) (nomark _))))) (pss_one (ps_ret pe_bl)) pss_nil)
 (pss_cons (ps_if (pt_cmpR (op_neD hu) (pe_cal C_how_long (hr.mono (by decide)) (by rfl) (pa_cons (pv 1) (pa_cons (pv 3) pa_nil))) (pe_cal C_how_long (hr.mono (by decide)) (by rfl) (pa_cons (pv 1) (pa_cons (pv 2) pa_nil))) (nomark _)) (pss_one (ps_ret pe_bl)) pss_nil)
 (pss_cons (ps_set (i := 4) sc__law_is_mirror_right.nd rfl (.inl rfl) (pe_ifExp (pt_cmpR op_gt (pe_callB cl_len (by rfl) B.m_len (by decide +kernel) (pa_cons (pv 2) pa_nil)) pe_int (nomark _)) (pe_callB (cl_minL rfl) (by rfl) B.m_min (by decide +kernel) (pa_cons (pe_cal C__law_gaps (hr.mono (by decide)) (by rfl) (pa_cons (pv 1) (pa_cons (pv 2) pa_nil))) pa_nil)) pe_int))
 (pss_cons (ps_set (i := 5) sc__law_is_mirror_right.nd rfl (.inl rfl) (pe_callTy cl_int (by rfl) B.m_int (by decide +kernel) (pa_cons (pe_cal C__law_take (hr.mono (by decide)) (by rfl) (pa_cons (pv 0) (pa_cons (pe_callB (cl_min2 rfl) (by rfl) B.m_min (by decide +kernel) (pa_cons pe_int (pa_cons (pv 4) pa_nil))) pa_nil))) pa_nil)))
 (pss_cons (ps_if (pt_cmpR (op_neD hu) (pe_ix ix_seq (pe_cal C_at_worst (hr.mono (by decide)) (by rfl) (pa_cons (pv 1) (pa_cons (pv 3) (pa_cons (pv 5) pa_nil)))) pe_int (fun _ _ => rfl)) (pe_ix ix_seq (pe_cal C_at_worst (hr.mono (by decide)) (by rfl) (pa_cons (pv 1) (pa_cons (pv 2) (pa_cons (pv 5) pa_nil)))) pe_int (fun _ _ => rfl)) (nomark _)) (pss_one (ps_ret pe_bl)) pss_nil)
 (pss_one (ps_ret (pe_cmpR (op_eqD hu) (pe_ix ix_seq (pe_cal C_held (hr.mono (by decide)) (by rfl) (pa_cons (pv 1) (pa_cons (pv 3) (pa_cons (pv 5) pa_nil)))) pe_int (fun _ _ => rfl)) (pe_ix ix_seq (pe_cal C_held (hr.mono (by decide)) (by rfl) (pa_cons (pv 1) (pa_cons (pv 2) (pa_cons (pv 5) pa_nil)))) pe_int (fun _ _ => rfl)) (nomark _)))))))))), ?_⟩
  try dsimp only [cxOf, Cx.nox]
  rintro ss O P ⟨p, lap, ts, rfl, n, a, b, c, rfl, hp, hn, g, hP⟩
  change StW _ _ _ [_, _, _, .u, .u, .u] _
  have hz : (4000 : Nat) ≤ sizeLine := Nat.le_of_ble_eq_true rfl
  have hla := g.l1
  have hlb := g.l2
  have hne := g.ne
  have hle := g.le
  have hdl := dI_len ts
  have hgl := gaps_len lap ts hne
  obtain ⟨gm, pm⟩ := mirror_facts g
  have hlm : (mirror lap ts).length = ts.length := by unfold mirror; rw [(sortI_perm _).length_eq, List.length_map]
  walk_at "ev"
  rw [mean_perm pm, eqv_prD]
  walk_at "ev"
  rw [worst_perm gm.ne pm]
  walk_at "ev"
  rw [told_perm gm.ne pm]
  rw [eqvT]
  have hgp := gaps_pos g
  refine ⟨fun h => absurd h (by decide), fun _ => st_next (st_seq (st_set (Ev.mono (P := fun s O' => ∃ least : Int, s = .d (.int least) ∧ O' = potL p a b c ∧ 0 < least ∧ (1 < ts.length → least = minI (gaps lap ts))) ?_ ?_)))⟩
  · walk_at "ev"
    refine ⟨fun h => ?_, fun h => ?_⟩
    · have h := of_decide_eq_true h
      walk_at "ev"
      intro m hm1 hm2
      rw [minI_eq hm1 hm2]
      exact ⟨_, rfl, rfl, hgp _ (minI_spec (gaps_ne hne)).1, fun _ => rfl⟩
    · have h := of_decide_eq_false h
      walk_at "ev"
      exact fun h2 => absurd h2 (by omega)
  · rintro _ _ ⟨least, rfl, rfl, hl0, hl1⟩
    walk_at "ev"
    refine ⟨n, a, b, c, rfl, hp, by omega, by omega, by omega, fun d a1 b1 c1 hd1 hd2 hp1 => ?_⟩
    have hm1 : 1 < ts.length → d < minI (gaps lap ts) := fun h => by have := hl1 h; omega
    have hm2 : 1 < (mirror lap ts).length → d < minI (gaps lap (mirror lap ts)) := fun h => by
      rw [min_perm pm (gaps_ne gm.ne)]
      exact hm1 (by omega)
    walk_at "ev"
    intro ls ho
    walk_at "ev"
    intro ls2 ho2
    have e1 := opt_mirror g hd1 hm1 ho2 ho
    clear ho ho2
    walk_at "ev"
    rw [e1, eqv_prD]
    walk_at "ev"
    intro ls3 ho3
    walk_at "ev"
    intro ls4 ho4
    have e2 := opt_mirror g hd1 hm1 ho4 ho3
    clear ho3 ho4
    walk_at "ev"
    rw [e2, eqv_prD]
    exact hP _ _ _ (hp1.mono (by omega))
end
end
section
open PySem PySem.Spec PyProof.Rows L2 AL
section
variable {P : Program} {w : World} {K : PySem.W.Frag} {mg : Str → Option Value} {base : Heap}
abbrev S__law_is_enough_right : DS := fun ss O P => ∃ (p : Addr) (lap : Int), ss = [.v (.ref p), .d (.int lap)] ∧ (∃ (n : Nat) (a b c : Int), O = potL p a b c ∧ PotOk n a b c ∧ n ≤ 2 ^ 30 ∧ 1 ≤ lap ∧ lap ≤ 1440 ∧
  ∀ a' b' c', PotOk (n + 100) a' b' c' → P (.d (.bool true)) (potL p a' b' c'))
theorem sc__law_is_enough_right : FnScope ["pot", "lap", "most", "many"] ["pot", "lap"] (defScope s__law_is_enough_right) := ⟨rfl, rfl, rfl, by decide +kernel, rfl, by decide +kernel, by decide +kernel⟩
theorem C__law_is_enough_right (B : Bas mg) (F : Fn K mg "_law_is_enough_right" s__law_is_enough_right ["pot", "lap"]) (C__law_take : Cal P w K mg base "_law_take" S__law_take 1) (C_enough_for : Cal P w K mg base "enough_for" S_enough_for 5) (C_spread : Cal P w K mg base "spread" S_spread 5) (C_worst_wait : Cal P w K mg base "worst_wait" S_worst_wait 5) : Cal P w K mg base "_law_is_enough_right" S__law_is_enough_right 6 := by
  refine Cal.mkF F sc__law_is_enough_right (by rintro ss O P ⟨p, lap, rfl, _⟩; rfl) fun f cdv A outer s H E hr => ?_
  have hu := hr.units
  refine ⟨_, (pss_cons (ps_set (i := 2) sc__law_is_enough_right.nd rfl (.inl rfl) (pe_callTy cl_int (by rfl) B.m_int (by decide +kernel) (pa_cons (pe_cal C__law_take (hr.mono (by decide)) (by rfl) (pa_cons (pv 0) (pa_cons (pv 1) pa_nil))) pa_nil)))
 (pss_cons (ps_set (i := 3) sc__law_is_enough_right.nd rfl (.inl rfl) (pe_un un_neg (pe_op op_fdiv (pe_un un_neg (pv 1)) (pe_op op_add (pv 2) pe_int))))
 (pss_cons (ps_if (pt_cmpR op_gt (pv 3) pe_int (nomark _)) (pss_one (ps_ret pe_bl)) pss_nil)
 (pss_cons (ps_if (PW.pt (pw_or (pt_cmpR (op_neD hu) (pe_ix ix_seq (pe_cal C_enough_for (hr.mono (by decide)) (by rfl) (pa_cons (pv 1) (pa_cons (pv 2) pa_nil))) pe_int (fun _ _ => rfl)) (pv 3) (nomark _)) (pw_or1 (pt_cmpR op_gt (pe_ix ix_seq (pe_cal C_worst_wait (hr.mono (by decide)) (by rfl) (pa_cons (pv 1) (pa_cons (pe_ix ix_seq (pe_cal C_spread (hr.mono (by decide)) (by rfl) (pa_cons (pv 1) (pa_cons (pv 3) pa_nil))) pe_int (fun _ _ => rfl)) pa_nil))) pe_int (fun _ _ => rfl)) (pv 2) (nomark _))))) (pss_one (ps_ret pe_bl)) pss_nil)
 (pss_one (ps_ret (pe_or (pe_cmpR (op_eqD hu) (pv 3) pe_int (nomark _)) (pe_one (pe_cmpR op_gt (pe_ix ix_seq (pe_cal C_worst_wait (hr.mono (by decide)) (by rfl) (pa_cons (pv 1) (pa_cons (pe_ix ix_seq (pe_cal C_spread (hr.mono (by decide)) (by rfl) (pa_cons (pv 1) (pa_cons (pe_op op_sub (pv 3) pe_int) pa_nil))) pe_int (fun _ _ => rfl)) pa_nil))) pe_int (fun _ _ => rfl)) (pv 2) (nomark _)))))))))), ?_⟩
  try dsimp only [cxOf, Cx.nox]
  rintro ss O P ⟨p, lap, rfl, n, a, b, c, rfl, hp, hn, h1, h2, hP⟩
  change StW _ _ _ [_, _, .u, .u] _
  walk_at "ev"
  refine ⟨n, a, b, c, rfl, hp, by omega, by omega, by omega, fun most a1 b1 c1 hd1 hd2 hp1 => ?_⟩
  obtain ⟨e1, e2, e3⟩ := enough_num h1 hd1
  walk_at "ev"
  rw [e1]
  have hP1 := hP a1 b1 c1 (hp1.mono (by omega))
  clear hP
  refine ⟨fun h => ?_, fun h => ?_⟩
  · walk_at "ev"
    exact hP1
  · have h := of_decide_eq_false h
    obtain ⟨g1, k1⟩ := enough_ok h1 h2 hd1 (by omega)
    have k2 := fewer_worst h1 h2 hd1 (show (lap + most) / (most + 1) ≤ 60 by omega)
    have hw : (worst lap (evens lap ((lap + most) / (most + 1)))).1 ≤ most := by
      show maxI (gaps lap (evens lap ((lap + most) / (most + 1)))) - 1 ≤ most
      omega
    generalize hmn : (lap + most) / (most + 1) = many at *
    clear k1 e1
    walk_at "ev"
    rw [eqv_int]
    refine ⟨fun h => ?_, fun h => hP1⟩
    have h := of_decide_eq_false h
    obtain ⟨g3, k3⟩ := k2 h
    clear k2
    walk_at "ev"
    rw [decide_eq_true k3]
    exact hP1
abbrev S__law_is_row_right : DS := fun ss O P => ∃ (lap : Int) (ts : List Int), ss = [.d (.int lap), .d (.tuple (dI ts))] ∧ Good lap ts ∧ P (.d (.bool true)) O
theorem sc__law_is_row_right : FnScope ["lap", "times", "now", "fall", "lap_of", "minute", "mean", "later", "was", "step"] ["lap", "times"] (defScope s__law_is_row_right) := ⟨rfl, rfl, rfl, by decide +kernel, rfl, by decide +kernel, by decide +kernel⟩
theorem C__law_is_row_right (B : Bas mg) (F : Fn K mg "_law_is_row_right" s__law_is_row_right ["lap", "times"]) (C__law_fraction : Cal P w K mg base "_law_fraction" S__law_fraction 1) (C__law_is_less : Cal P w K mg base "_law_is_less" S__law_is_less 1) (C_mean_wait : Cal P w K mg base "mean_wait" S_mean_wait 5) (C_one_less : Cal P w K mg base "one_less" S_one_less 5) (C_one_more : Cal P w K mg base "one_more" S_one_more 5) (C_worst_wait : Cal P w K mg base "worst_wait" S_worst_wait 5) : Cal P w K mg base "_law_is_row_right" S__law_is_row_right 6 := by
  refine Cal.mkF F sc__law_is_row_right (by rintro ss O P ⟨lap, ts, rfl, _⟩; rfl) fun f cdv A outer s H E hr => ?_
  have hu := hr.units
  refine ⟨_, (pss_cons (ps_par (i := 2) (j := 3) rfl sc__law_is_row_right.nd rfl rfl (by decide) rfl rfl (pa_cons (pv 1) (pa_cons pe_non pa_nil)) (by rfl))
 (pss_cons (ps_for PassesOwn.never rfl (pi_range1 (by rfl) B.m_range (pa_cons pe_int pa_nil)) (pg_name (i := 4) sc__law_is_row_right.nd rfl (.inl rfl)) (pss_one (ps_if (pt_cmpR op_lt (pe_callB cl_len (by rfl) B.m_len (by decide +kernel) (pa_cons (pv 2) pa_nil)) (pe_callB (cl_min2 rfl) (by rfl) B.m_min (by decide +kernel) (pa_cons (pv 0) (pa_cons pe_int pa_nil))) (nomark _)) (pss_cons (ps_asg (pe_cal C_one_more (hr.mono (by decide)) (by rfl) (pa_cons (pv 0) (pa_cons (pv 2) pa_nil))) (pg_tup rfl (pgs_cons (pg_name (i := 5) sc__law_is_row_right.nd rfl (.inl rfl)) (pgs_cons (pg_name (i := 6) sc__law_is_row_right.nd rfl (.inl rfl)) pgs_nil))))
 (pss_cons (ps_set (i := 7) sc__law_is_row_right.nd rfl (.inl rfl) (pe_callTy cl_tuple (by rfl) B.m_tuple (by decide +kernel) (pa_cons (pe_callB cl_sorted (by rfl) B.m_sorted (by decide +kernel) (pa_cons (pe_op op_cat (pe_callTy cl_list (by rfl) B.m_list (by decide +kernel) (pa_cons (pv 2) pa_nil)) (pe_lst (pa_cons (pv 5) pa_nil))) pa_nil)) pa_nil)))
 (pss_cons (ps_set (i := 8) sc__law_is_row_right.nd rfl (.inl rfl) (pe_cal C_mean_wait (hr.mono (by decide)) (by rfl) (pa_cons (pv 0) (pa_cons (pv 2) pa_nil))))
 (pss_cons (ps_if (PW.pt (pw_or (pt_cmpR (op_neD hu) (pe_cal C_mean_wait (hr.mono (by decide)) (by rfl) (pa_cons (pv 0) (pa_cons (pv 7) pa_nil))) (pv 6) (nomark _)) (pw_or (pt_val (pe_cal C__law_is_less (hr.mono (by decide)) (by rfl) (pa_cons (pv 8) (pa_cons (pv 6) pa_nil)))) (pw_or1 (pt_cmpR op_gt (pe_ix ix_seq (pe_cal C_worst_wait (hr.mono (by decide)) (by rfl) (pa_cons (pv 0) (pa_cons (pv 7) pa_nil))) pe_int (fun _ _ => rfl)) (pe_ix ix_seq (pe_cal C_worst_wait (hr.mono (by decide)) (by rfl) (pa_cons (pv 0) (pa_cons (pv 2) pa_nil))) pe_int (fun _ _ => rfl)) (nomark _)))))) (pss_one (ps_ret pe_bl)) pss_nil)
 (pss_cons (ps_set (i := 9) sc__law_is_row_right.nd rfl (.inl rfl) (pe_cal C__law_fraction (hr.mono (by decide)) (by rfl) (pa_cons (pe_op op_sub (pe_op op_mul (pe_ix ix_seq (pv 8) pe_int (fun _ _ => rfl)) (pe_ix ix_seq (pv 6) pe_int (fun _ _ => rfl))) (pe_op op_mul (pe_ix ix_seq (pv 6) pe_int (fun _ _ => rfl)) (pe_ix ix_seq (pv 8) pe_int (fun _ _ => rfl)))) (pa_cons (pe_op op_mul (pe_ix ix_seq (pv 8) pe_int (fun _ _ => rfl)) (pe_ix ix_seq (pv 6) pe_int (fun _ _ => rfl))) pa_nil))))
 (pss_cons (ps_if (PW.pt (pw_and (pt_cmpR op_notN (pv 3) pe_non (nomark _)) (pw_and1 (pt_val (pe_cal C__law_is_less (hr.mono (by decide)) (by rfl) (pa_cons (pv 3) (pa_cons (pv 9) pa_nil))))))) (pss_one (ps_ret pe_bl)) pss_nil)
 (pss_cons (ps_if (pt_val (pe_cal C__law_is_less (hr.mono (by decide)) (by rfl) (pa_cons (pv 8) (pa_cons (pe_ix ix_seq (pe_cal C_one_less (hr.mono (by decide)) (by rfl) (pa_cons (pv 0) (pa_cons (pv 7) pa_nil))) pe_int (fun _ _ => rfl)) pa_nil)))) (pss_one (ps_ret pe_bl)) pss_nil)
 (pss_one (ps_par (i := 2) (j := 3) rfl sc__law_is_row_right.nd rfl rfl (by decide) rfl rfl (pa_cons (pv 7) (pa_cons (pv 9) pa_nil)) (by rfl)))))))))) pss_nil)))
 (pss_one (ps_ret pe_bl)))), ?_⟩
  try dsimp only [cxOf, Cx.nox]
  rintro ss O P ⟨lap, ts, rfl, g, hP⟩
  change StW _ _ _ [_, _, .u, .u, .u, .u, .u, .u, .u, .u] _
  have hla := g.l1
  have hlb := g.l2
  have hz : (4000 : Nat) ≤ sizeLine := Nat.le_of_ble_eq_true rfl
  walk_at "ev"
  refine st_for ?_
  walk_at "ev"
  refine ⟨fun i ρ O' => O' = O ∧ ∃ (now : List Int) (fall : Option Int) (fs x4 x5 x6 x7 x8 x9 : Sl), ρ = [.d (.int lap), .d (.tuple (dI ts)), .d (.tuple (dI now)), fs, x4, x5, x6, x7, x8, x9] ∧ RowIn lap now fall ∧ ((fall = none ∧ fs = .d .none) ∨ ∃ d, fall = some d ∧ 0 ≤ d ∧ fs = .d (prD (fr d lap))),
    ⟨rfl, ts, none, _, .u, .u, .u, .u, .u, .u, rfl, ⟨g, fun d e => by cases e⟩, .inl ⟨rfl, rfl⟩⟩, ?_, ?_⟩
  · rintro i d ρ O' hd ⟨rfl, now, fall, fs, x4, x5, x6, x7, x8, x9, rfl, hri, hfs⟩
    have gn := hri.g
    have hnl := dI_len now
    refine gw_name ?_
    walk_at "ev"
    refine ⟨fun h => ?_, fun h => ?_⟩
    · have h := of_decide_eq_true h
      have hfp := free_pos gn (by omega)
      walk_at "ev"
      intro m hm hmin
      rw [show sortI (now ++ [m]) = more now m from rfl]
      have gm := more_good gn (by omega) hm
      have hri2 := row_step hri (by omega) hm hmin
      have hwo := without_more gn (show now.length < 60 by omega) hm
      have hml := more_len now m
      have hws : WS lap (more now m) ≤ WS lap now := by have := more_nn (lap := lap) (m := m) gn.ne; omega
      have hsub : ∀ t ∈ now, t ∈ more now m := fun t ht => more_mem.mpr (.inl ht)
      have hmm : m ∈ more now m := more_mem.mpr (.inr rfl)
      have hold : ∀ d, fall = some d → WS lap now - WS lap (more now m) ≤ d := fun d e => hri.f d e m hm
      clear hmin
      have hnn := gn.ne
      walk_at "ev"
      refine ev_catO (ev_cb (ea_cons (ev_vd rfl (ea_nil (rv_of ⟨_, _, rfl, .t, .inr fun p1 => ⟨p1, rfl, ?_⟩⟩)))))
      refine ev_lstO (ea_cons (ev_vd rfl (ea_nil ⟨[.int m], rfl, Nat.le_of_ble_eq_true rfl, fun p2 => ⟨p2, 1, 0, dI now, [.int m], rfl, rfl, rfl, by rw [dI_len]; simp; omega, fun p3 => ?_⟩⟩)))
      refine ea_nil (rv_of ⟨_, now ++ [m], rfl, by rw [← dI_snoc]; exact .o (i := 0) rfl, fun ns q1 q2 => ?_⟩)
      rw [show ns = more now m from sortI_eq q1 q2]
      refine ea_nil (rv_of ⟨_, _, rfl, .l, ?_⟩)
      refine st_lose (O' := O') (((List.sublist_cons_self _ _).trans (List.sublist_cons_self _ _)).trans (List.sublist_cons_self _ _)) ?_
      clear q1 q2
      have hw := worst_sub gn gm hsub
      have hms := mean_sub gn gm hsub
      unfold ltP at hms
      have dn := meanP_den now hla hlb
      have dm := meanP_den (more now m) hla hlb
      walk_at "ev"
      rw [eqv_prD]
      walk_at "ev"
      refine ⟨step_bd gn gm hws, ?_⟩
      rw [step_fr gn gm]
      have hD0 : 0 ≤ WS lap now - WS lap (more now m) := by omega
      clear hws
      generalize WS lap now - WS lap (more now m) = D at *
      have fdD := fr_den (a := D) (b := lap) (by omega)
      have hnew : ∀ ρ2 : List Sl, ρ2 = [.d (.int lap), .d (.tuple (dI ts)), .d (.tuple (dI (more now m))), .d (prD (fr D lap)), .d d, .d (.int m), .d (prD (meanP lap (more now m))), .d (.tuple (dI (more now m))), .d (prD (meanP lap now)), .d (prD (fr D lap))] →
        (O' = O' ∧ ∃ (now : List Int) (fall : Option Int) (fs x4 x5 x6 x7 x8 x9 : Sl), ρ2 = [.d (.int lap), .d (.tuple (dI ts)), .d (.tuple (dI now)), fs, x4, x5, x6, x7, x8, x9] ∧ RowIn lap now fall ∧ ((fall = none ∧ fs = .d .none) ∨ ∃ d, fall = some d ∧ 0 ≤ d ∧ fs = .d (prD (fr d lap)))) :=
        fun ρ2 e => ⟨rfl, more now m, some D, _, _, _, _, _, _, _, e, hri2, .inr ⟨D, rfl, hD0, rfl⟩⟩
      have fin : ∀ t ∈ more now m, (∀ n ∈ more now m, ¬ ltP (meanP lap (without (more now m) n)) (meanP lap (without (more now m) t))) → ¬ (meanP lap now).1 * (meanP lap (without (more now m) t)).2 < (meanP lap (without (more now m) t)).1 * (meanP lap now).2 := fun t ht hm2 => by
        have := hm2 m hmm
        rw [hwo] at this
        exact this
      clear hwo hri2 hri
      rcases hfs with ⟨rfl, rfl⟩ | ⟨d0, rfl, hd0, rfl⟩
      · clear hold
        walk_at "ev"
        intro t ht hm2
        have hf := fin t ht hm2
        have dt := meanP_den (without (more now m) t) hla hlb
        clear hm2 fin
        walk_at "ev"
        exact (hnew _ rfl).2
      · have hle := less_fr (show (0 : Int) < lap by omega) (hold d0 rfl)
        have fd0 := fr_den (a := d0) (b := lap) (by omega)
        unfold ltP at hle
        clear hold
        walk_at "ev"
        intro t ht hm2
        have hf := fin t ht hm2
        have dt := meanP_den (without (more now m) t) hla hlb
        clear hm2 fin
        walk_at "ev"
        exact (hnew _ rfl).2
    · walk_at "ev"
      exact ⟨now, fall, fs, _, x5, x6, x7, x8, x9, rfl, hri, hfs⟩
  · rintro ρ O' ⟨rfl, now, fall, fs, x4, x5, x6, x7, x8, x9, rfl, hri, hfs⟩
    walk_at "ev"
    exact hP
end
end
section
open PySem PySem.Spec PyProof.Rows L2 AL
section
variable {P : Program} {w : World} {K : PySem.W.Frag} {mg : Str → Option Value} {base : Heap}
abbrev S__law_right : DS := fun ss O P => ∃ (p : Addr), ss = [.v (.ref p)] ∧ (∃ (n : Nat) (a b c : Int), O = potL p a b c ∧ PotOk n a b c ∧ n ≤ 2 ^ 20 ∧
  ∀ a' b' c', PotOk (n + 1000) a' b' c' → P (.d (.bool true)) (potL p a' b' c'))
theorem sc__law_right : FnScope ["pot", "by", "lap", "times", "other"] ["pot"] (defScope s__law_right) := ⟨rfl, rfl, rfl, by decide +kernel, rfl, by decide +kernel, by decide +kernel⟩
theorem C__law_right (B : Bas mg) (F : Fn K mg "_law_right" s__law_right ["pot"]) (C__law_are_two_right : Cal P w K mg base "_law_are_two_right" S__law_are_two_right 7) (C__law_is_enough_right : Cal P w K mg base "_law_is_enough_right" S__law_is_enough_right 6) (C__law_is_great_right : Cal P w K mg base "_law_is_great_right" S__law_is_great_right 6) (C__law_is_mirror_right : Cal P w K mg base "_law_is_mirror_right" S__law_is_mirror_right 7) (C__law_is_row_right : Cal P w K mg base "_law_is_row_right" S__law_is_row_right 6) (C__law_of : Cal P w K mg base "_law_of" S__law_of 2) (C__law_take : Cal P w K mg base "_law_take" S__law_take 1) (C__law_times : Cal P w K mg base "_law_times" S__law_times 3) : Cal P w K mg base "_law_right" S__law_right 8 := by
  refine Cal.mkF F sc__law_right (by rintro ss O P ⟨p, rfl, _⟩; rfl) fun f cdv A outer s H E hr => ?_
  have hu := hr.units
  refine ⟨_, (pss_cons (ps_set (i := 1) sc__law_right.nd rfl (.inl rfl) (pe_op op_add pe_int (pe_cal C__law_take (hr.mono (by decide)) (by rfl) (pa_cons (pv 0) (pa_cons pe_int pa_nil)))))
 (pss_cons (ps_set (i := 2) sc__law_right.nd rfl (.inl rfl) (pe_op op_add pe_int (pe_cal C__law_take (hr.mono (by decide)) (by rfl) (pa_cons (pv 0) (pa_cons (pe_cal C__law_of (hr.mono (by decide)) (by rfl) (pa_cons (pv 0) (pa_cons (pe_lst (pa_cons pe_int (pa_cons pe_int (pa_cons (pe_op op_fdiv pe_int (pv 1)) pa_nil)))) pa_nil))) pa_nil)))))
 (pss_cons (ps_par (i := 3) (j := 4) rfl sc__law_right.nd rfl rfl (by decide) rfl rfl (pa_cons (pe_cal C__law_times (hr.mono (by decide)) (by rfl) (pa_cons (pv 0) (pa_cons (pv 2) (pa_cons pe_int pa_nil)))) (pa_cons (pe_cal C__law_times (hr.mono (by decide)) (by rfl) (pa_cons (pv 0) (pa_cons (pv 2) (pa_cons (pe_ifExp (pt_cmpR op_lt (pv 2) pe_int (nomark _)) pe_int pe_int) pa_nil)))) pa_nil)) (by rfl))
 (pss_cons (ps_if (PW.pt (pw_or (pt_not (pt_val (pe_cal C__law_is_great_right (hr.mono (by decide)) (by rfl) (pa_cons (pv 0) (pa_cons (pv 2) (pa_cons (pv 3) (pa_cons (pv 1) pa_nil))))))) (pw_or1 (pt_not (pt_val (pe_cal C__law_are_two_right (hr.mono (by decide)) (by rfl) (pa_cons (pv 0) (pa_cons (pv 2) (pa_cons (pe_ifExp (pt_cmpR op_lt (pv 2) pe_int (nomark _)) (pv 3) (pe_slice sl_any (pv 3) po_none (po_some pe_int))) (pa_cons (pv 4) (pa_cons (pv 1) pa_nil))))))))))) (pss_one (ps_ret pe_bl)) pss_nil)
 (pss_one (ps_ret (pe_and (pe_cal C__law_is_mirror_right (hr.mono (by decide)) (by rfl) (pa_cons (pv 0) (pa_cons (pv 2) (pa_cons (pv 3) pa_nil)))) (pe_and (pe_cal C__law_is_row_right (hr.mono (by decide)) (by rfl) (pa_cons (pv 2) (pa_cons (pv 3) pa_nil))) (pe_one (pe_cal C__law_is_enough_right (hr.mono (by decide)) (by rfl) (pa_cons (pv 0) (pa_cons (pv 2) pa_nil)))))))))))), ?_⟩
  try dsimp only [cxOf, Cx.nox]
  rintro ss O P ⟨p, rfl, n, a, b, c, rfl, hp, hn, hP⟩
  change StW _ _ _ [_, .u, .u, .u, .u] _
  walk_at "ev"
  refine ⟨n, a, b, c, rfl, hp, by omega, by omega, by omega, fun y0 a0 b0 c0 hy1 hy2 hp0 => ?_⟩
  obtain ⟨y, hy⟩ : ∃ y : Nat, 2 + y0 = (y : Int) := ⟨(2 + y0).toNat, by omega⟩
  refine ⟨_, rfl, ?_⟩
  rw [hy]
  have hdv : (1440 : Int) / y * y ≤ 1440 := Int.ediv_mul_le _ (by omega)
  have hdv2 : 288 ≤ (1440 : Int) / y := (Int.le_ediv_iff_mul_le (by omega)).mpr (by omega)
  have hdv3 : (1440 : Int) / y ≤ 1440 := by
    have := Int.mul_le_mul_of_nonneg_left (show (1 : Int) ≤ y by omega) (show 0 ≤ (1440 : Int) / y by omega)
    omega
  walk_at "ev"
  refine ⟨p, [9, 60, 1440 / (y : Int)], rfl, n + 1, a0, b0, c0, rfl, hp0, by omega, Nat.succ_pos _, Nat.le_of_ble_eq_true rfl, fun d a1 b1 c1 hd1 hp1 => ?_⟩
  have hd : 9 ≤ d ∧ d ≤ 1440 ∧ d * y ≤ 1440 := by
    have h : d = 9 ∨ d = 60 ∨ d = 1440 / (y : Int) := by simpa using hd1
    rcases h with h | h | h
    · rw [h]; omega
    · rw [h]; omega
    · rw [h]; omega
  walk_at "ev"
  refine ⟨n + 2, a1, b1, c1, rfl, hp1, by omega, by omega, by omega, fun l a2 b2 c2 hl1 hl2 hp2 => ?_⟩
  have hly : (1 + l) * (y : Int) ≤ 1440 := by
    have := Int.mul_le_mul_of_nonneg_right (show 1 + l ≤ d by omega) (show (0 : Int) ≤ y by omega)
    omega
  walk_at "ev"
  refine ⟨n + 3, a2, b2, c2, rfl, hp2, by omega, by omega, by omega, by omega, by omega, fun one a3 b3 c3 g1 hl3 hp3 => ?_⟩
  walk_at "en"
  refine Ev.mono (P := fun s O' => ∃ m : Int, s = .d (.int m) ∧ O' = potL p a3 b3 c3 ∧ 1 ≤ m ∧ m ≤ 60) ?_ ?_
  · walk_at "ev"
    refine ⟨fun _ => ?_, fun _ => ?_⟩
    · walk_at "ev"
      omega
    · walk_at "ev"
      omega
  rintro _ _ ⟨m', rfl, rfl, hm3, hm4⟩
  walk_at "ev"
  refine ⟨n + 103, a3, b3, c3, rfl, hp3, by omega, by omega, by omega, by omega, by omega, fun other a4 b4 c4 g2 hl4 hp4 => ?_⟩
  walk_at "ev"
  refine ⟨n + 203, a4, b4, c4, rfl, hp4, by omega, g1, by omega, by omega, hly, fun a5 b5 c5 hp5 => ?_⟩
  walk_at "en"
  refine Ev.mono (P := fun s O' => ∃ o1 : List Int, s = .d (.tuple (dI o1)) ∧ O' = potL p a5 b5 c5 ∧ Good (1 + l) o1) ?_ ?_
  · walk_at "ev"
    refine ⟨fun _ => ?_, fun _ => ?_⟩
    · walk_at "ev"
      exact g1
    · walk_at "ev"
      exact ⟨one.take 10, by rw [cut10], rfl, good_take g1 10 (by omega)⟩
  rintro _ _ ⟨o1, rfl, rfl, go⟩
  walk_at "ev"
  refine ⟨p, 1 + l, o1, other, y, rfl, n + 303, a5, b5, c5, rfl, hp5, by omega, go, g2, by omega, by omega, hly, fun a6 b6 c6 hp6 => ?_⟩
  walk_at "ev"
  refine ⟨n + 403, a6, b6, c6, rfl, hp6, by omega, g1, fun a7 b7 c7 hp7 => ?_⟩
  walk_at "ev"
  refine ⟨n + 503, a7, b7, c7, rfl, hp7, by omega, by omega, by omega, fun a8 b8 c8 hp8 => ?_⟩
  exact hP _ _ _ (hp8.mono (by omega))
abbrev S_law : DS := fun ss O P => ∃ (ns : List Int), ss = [.d (.list (dI ns))] ∧ (ns.length ≤ 63 ∧ ∀ O', P (.d (.bool true)) O')
end
end
section
open PySem PySem.Spec PyProof.Rows L2 AL
section
variable {P : Program} {w : World} {K : PySem.W.Frag} {mg : Str → Option Value} {base : Heap}
theorem fnok_mk {x : Str} {st : Stmt} {N ps : List Str} {k : Nat} {S : DS} {f : Addr} {fd : FuncData} (F1 : FunD K x x (defArgs st) (defBody st) (defScope st) [] [] f fd) (sc : FnScope N ps (defScope st)) (hl : ∀ ss O P, S ss O P → ss.length = ps.length)
    (h : ∀ (f : Addr) (cdv : Value) (A : Around) (outer : List Env) (s : Shared) (H : Hp) (E : XK), Room k (A.deeper (envOfC x (defScope st) s.heap.objs.size f cdv)) → ∃ t, PSs (cxOf CX0 P w K mg base N x (defScope st) f cdv A outer s H E).nox (defBody st) t ∧
      ∀ ss O P, S ss O P → StW K t O (ss ++ List.replicate (N.length - ss.length) .u) { nx := fun _ O' => P (.d .none) O', rt := P }) : FnOk P w K mg base CX0 (k + 1) f fd ps (spA K S) := by
  refine F1.ok sc (fun vs H Q E hS => ?_) (fun cdv A outer s H vs Q E hr hS => ?_)
  · obtain ⟨F, ss, O, P, _, _, vo, hP, _⟩ := hS
    rw [vo.len]
    exact hl ss O P hP
  · obtain ⟨t, h1, h2⟩ := h f cdv A outer s H E hr
    exact ⟨t, PSs.nox h1, fn_body h2 vs H Q hS⟩
theorem sc_law : FnScope ["script", "place", "pot", "lap"] ["script"] (defScope s_law) := ⟨rfl, rfl, rfl, by decide +kernel, rfl, by decide +kernel, by decide +kernel⟩
theorem ok_law {f : Addr} {fd : FuncData} (B : Bas mg) (F : FunD K "law" "law" (defArgs s_law) (defBody s_law) (defScope s_law) [] [] f fd) (C__law_cells : Cal P w K mg base "_law_cells" S__law_cells 1) (C__law_pot : Cal P w K mg base "_law_pot" S__law_pot 1) (C__law_right : Cal P w K mg base "_law_right" S__law_right 8) : FnOk P w K mg base CX0 9 f fd ["script"] (spA K S_law) := by
  refine fnok_mk F sc_law (by rintro ss O P ⟨ns, rfl, _⟩; rfl) fun f cdv A outer s H E hr => ?_
  have hu := hr.units
  refine ⟨_, (pss_cons (ps_for PassesOwn.never rfl (pi_seq (pe_cal C__law_cells (hr.mono (by decide)) (by rfl) (pa_cons (pv 0) (pa_cons pe_int pa_nil)))) (pg_name (i := 1) sc_law.nd rfl (.inl rfl)) (pss_cons (ps_set (i := 2) sc_law.nd rfl (.inr rfl) (pe_cal C__law_pot (hr.mono (by decide)) (by rfl) (pa_cons (pv 0) (pa_cons (pv 1) pa_nil))))
 (pss_one (ps_if (pt_not (pt_val (pe_callB (cl_all rfl) (by rfl) B.m_all (by decide +kernel) (pa_cons (pe_lc (own := [("lap", 3)]) (g := (gName 3)) (tt := tYes) (te := (tCall (spA K S__law_right) [] E0 (tCons (tVar 2) tNil))) rfl sc_law.nd (pi_range1 (by rfl) B.m_range (pa_cons pe_int pa_nil)) (blkOk_by (own := [("lap", 3)]) (N := ["script", "place", "pot", "lap"]) (by first | decide +kernel | kernel_rfl)) (fun _ _ _ _ _ => (pg_name (i := 3) sc_law.nd rfl (.inl rfl))) (fun _ _ _ _ _ => pts_nil) (fun _ _ _ _ _ => (pe_cal C__law_right (hr.mono (by decide)) (by rfl) (pa_cons (pv 2) pa_nil)))) pa_nil)))) (pss_one (ps_ret pe_bl)) pss_nil))))
 (pss_one (ps_ret pe_bl))), ?_⟩
  try dsimp only [cxOf, Cx.nox]
  rintro ss O P ⟨ns, rfl, hn, hP⟩
  change StW _ _ _ [_, .u, .u, .u] _
  walk_at "ev"
  refine st_for ?_
  walk_at "ev"
  intro k hk1 hk2
  walk_at "ev"
  refine ⟨fun i ρ O' => ∃ x y z : Sl, ρ = [.d (.list (dI ns)), x, y, z], ⟨_, _, _, rfl⟩, ?_, ?_⟩
  · rintro i d ρ O' hd ⟨x, y, z, rfl⟩
    have hi : i < k := by
      have := (List.getElem?_eq_some_iff.mp hd).1
      rw [dI_len, rng_len] at this
      exact this
    have hd2 : d = .int i := by
      have e : (dI (rng k))[i]? = some (PyData.int i) := by
        show (List.map _ _)[i]? = _
        rw [List.getElem?_map, rng_get hi]
        rfl
      rw [e] at hd
      exact (Option.some.inj hd).symm
    subst hd2
    refine gw_name (st_lose (O' := []) (List.nil_sublist _) ?_)
    walk_at "ev"
    intro p a b c hp
    walk_at "ev"
    refine lc_d (go_name (by decide)) ?_
    walk_at "ev"
    refine ⟨fun j acc O' => ∃ a b c, acc = List.replicate j (.bool true) ∧ O' = potL p a b c ∧ PotOk (1000 * j) a b c, ⟨a, b, c, rfl, rfl, hp⟩, ?_, ?_⟩
    · rintro j x acc O' hx ⟨a1, b1, c1, rfl, rfl, hp1⟩
      have hj : j < 2 := by
        have := (List.getElem?_eq_some_iff.mp hx).1
        rw [rgD_len] at this
        exact this
      walk_at "ev"
      refine ⟨1000 * j, a1, b1, c1, rfl, hp1, by omega, fun a2 b2 c2 hp2 => ?_⟩
      refine ⟨_, rfl, by rw [List.length_replicate]; have : (2000 : Nat) ≤ sizeLine := Nat.le_of_ble_eq_true rfl; omega, a2, b2, c2, by rw [List.replicate_succ'], rfl, hp2⟩
    · rintro acc O' ⟨a1, b1, c1, rfl, rfl, hp1⟩
      refine ea_nil (rv_of ⟨_, List.replicate 2 true, rfl, .inl rfl, ?_⟩)
      walk_at "ev"
      exact ⟨_, _, _, rfl⟩
  · rintro ρ O' ⟨x, y, z, rfl⟩
    walk_at "ev"
    exact hP _
end
theorem bas_of {K : PySem.W.Frag} {h : Heap} {mg : Str → Option Value} (X : K.In h) (G : h.Ns mainGlobals mg) (c : He.SaysD fa fn K) : Bas mg where
  m_isinstance := He.free_ok X G (c.fact 59 (f := .free "isinstance") rfl)
  m_int := He.free_ok X G (c.fact 60 (f := .free "int") rfl)
  m_bool := He.free_ok X G (c.fact 61 (f := .free "bool") rfl)
  m_all := He.free_ok X G (c.fact 62 (f := .free "all") rfl)
  m_zip := He.free_ok X G (c.fact 63 (f := .free "zip") rfl)
  m_abs := He.free_ok X G (c.fact 64 (f := .free "abs") rfl)
  m_tuple := He.free_ok X G (c.fact 65 (f := .free "tuple") rfl)
  m_len := He.free_ok X G (c.fact 66 (f := .free "len") rfl)
  m_sum := He.free_ok X G (c.fact 67 (f := .free "sum") rfl)
  m_min := He.free_ok X G (c.fact 68 (f := .free "min") rfl)
  m_max := He.free_ok X G (c.fact 69 (f := .free "max") rfl)
  m_range := He.free_ok X G (c.fact 70 (f := .free "range") rfl)
  m_enumerate := He.free_ok X G (c.fact 71 (f := .free "enumerate") rfl)
  m_sorted := He.free_ok X G (c.fact 72 (f := .free "sorted") rfl)
  m_set := He.free_ok X G (c.fact 73 (f := .free "set") rfl)
  m_list := He.free_ok X G (c.fact 74 (f := .free "list") rfl)
  m_dict := He.free_ok X G (c.fact 75 (f := .free "dict") rfl)
  c_MOST_LAP := He.int_ok X G (c.fact 76 (f := .int "MOST_LAP" 1440) rfl)
  c_MOST_TIMES := He.int_ok X G (c.fact 77 (f := .int "MOST_TIMES" 60) rfl)
  c_MOST_LATE := He.int_ok X G (c.fact 78 (f := .int "MOST_LATE" 12) rfl)
theorem fn_is_integer {K : PySem.W.Frag} {h : Heap} {mg : Str → Option Value} (X : K.In h) (G : h.Ns mainGlobals mg) (c : He.SaysD fa fn K) : Fn K mg "is_integer" s_is_integer ["value"] := by
  obtain ⟨fd, F⟩ := c.def_ 0 (d := d_is_integer) rfl
  exact ⟨_, fd, F, He.glo_ok X G (c.fact 0 (f := .glo "is_integer") rfl), F.bindsN fun _ _ _ _ _ _ us hl => match us, hl with | [_], _ => rfl⟩
theorem fn_is_between {K : PySem.W.Frag} {h : Heap} {mg : Str → Option Value} (X : K.In h) (G : h.Ns mainGlobals mg) (c : He.SaysD fa fn K) : Fn K mg "is_between" s_is_between ["value", "least", "most"] := by
  obtain ⟨fd, F⟩ := c.def_ 1 (d := d_is_between) rfl
  exact ⟨_, fd, F, He.glo_ok X G (c.fact 1 (f := .glo "is_between") rfl), F.bindsN fun _ _ _ _ _ _ us hl => match us, hl with | [_, _, _], _ => rfl⟩
theorem fn_is_ascending {K : PySem.W.Frag} {h : Heap} {mg : Str → Option Value} (X : K.In h) (G : h.Ns mainGlobals mg) (c : He.SaysD fa fn K) : Fn K mg "is_ascending" s_is_ascending ["values"] := by
  obtain ⟨fd, F⟩ := c.def_ 2 (d := d_is_ascending) rfl
  exact ⟨_, fd, F, He.glo_ok X G (c.fact 2 (f := .glo "is_ascending") rfl), F.bindsN fun _ _ _ _ _ _ us hl => match us, hl with | [_], _ => rfl⟩
theorem fn_common {K : PySem.W.Frag} {h : Heap} {mg : Str → Option Value} (X : K.In h) (G : h.Ns mainGlobals mg) (c : He.SaysD fa fn K) : Fn K mg "common" s_common ["one", "other"] := by
  obtain ⟨fd, F⟩ := c.def_ 3 (d := d_common) rfl
  exact ⟨_, fd, F, He.glo_ok X G (c.fact 3 (f := .glo "common") rfl), F.bindsN fun _ _ _ _ _ _ us hl => match us, hl with | [_, _], _ => rfl⟩
theorem fn_reduced {K : PySem.W.Frag} {h : Heap} {mg : Str → Option Value} (X : K.In h) (G : h.Ns mainGlobals mg) (c : He.SaysD fa fn K) : Fn K mg "reduced" s_reduced ["top", "low"] := by
  obtain ⟨fd, F⟩ := c.def_ 4 (d := d_reduced) rfl
  exact ⟨_, fd, F, He.glo_ok X G (c.fact 4 (f := .glo "reduced") rfl), F.bindsN fun _ _ _ _ _ _ us hl => match us, hl with | [_, _], _ => rfl⟩
theorem fn_less {K : PySem.W.Frag} {h : Heap} {mg : Str → Option Value} (X : K.In h) (G : h.Ns mainGlobals mg) (c : He.SaysD fa fn K) : Fn K mg "less" s_less ["one", "other"] := by
  obtain ⟨fd, F⟩ := c.def_ 5 (d := d_less) rfl
  exact ⟨_, fd, F, He.glo_ok X G (c.fact 5 (f := .glo "less") rfl), F.bindsN fun _ _ _ _ _ _ us hl => match us, hl with | [_, _], _ => rfl⟩
theorem fn_is_fraction {K : PySem.W.Frag} {h : Heap} {mg : Str → Option Value} (X : K.In h) (G : h.Ns mainGlobals mg) (c : He.SaysD fa fn K) : Fn K mg "is_fraction" s_is_fraction ["value"] := by
  obtain ⟨fd, F⟩ := c.def_ 6 (d := d_is_fraction) rfl
  exact ⟨_, fd, F, He.glo_ok X G (c.fact 6 (f := .glo "is_fraction") rfl), F.bindsN fun _ _ _ _ _ _ us hl => match us, hl with | [_], _ => rfl⟩
theorem fn_check_lap {K : PySem.W.Frag} {h : Heap} {mg : Str → Option Value} (X : K.In h) (G : h.Ns mainGlobals mg) (c : He.SaysD fa fn K) : Fn K mg "check_lap" s_check_lap ["lap"] := by
  obtain ⟨fd, F⟩ := c.def_ 7 (d := d_check_lap) rfl
  exact ⟨_, fd, F, He.glo_ok X G (c.fact 7 (f := .glo "check_lap") rfl), F.bindsN fun _ _ _ _ _ _ us hl => match us, hl with | [_], _ => rfl⟩
theorem fn_are_times {K : PySem.W.Frag} {h : Heap} {mg : Str → Option Value} (X : K.In h) (G : h.Ns mainGlobals mg) (c : He.SaysD fa fn K) : Fn K mg "are_times" s_are_times ["lap", "value"] := by
  obtain ⟨fd, F⟩ := c.def_ 8 (d := d_are_times) rfl
  exact ⟨_, fd, F, He.glo_ok X G (c.fact 8 (f := .glo "are_times") rfl), F.bindsN fun _ _ _ _ _ _ us hl => match us, hl with | [_, _], _ => rfl⟩
theorem fn_check_times {K : PySem.W.Frag} {h : Heap} {mg : Str → Option Value} (X : K.In h) (G : h.Ns mainGlobals mg) (c : He.SaysD fa fn K) : Fn K mg "check_times" s_check_times ["lap", "times"] := by
  obtain ⟨fd, F⟩ := c.def_ 9 (d := d_check_times) rfl
  exact ⟨_, fd, F, He.glo_ok X G (c.fact 9 (f := .glo "check_times") rfl), F.bindsN fun _ _ _ _ _ _ us hl => match us, hl with | [_, _], _ => rfl⟩
theorem fn_gaps_of {K : PySem.W.Frag} {h : Heap} {mg : Str → Option Value} (X : K.In h) (G : h.Ns mainGlobals mg) (c : He.SaysD fa fn K) : Fn K mg "gaps_of" s_gaps_of ["lap", "times"] := by
  obtain ⟨fd, F⟩ := c.def_ 10 (d := d_gaps_of) rfl
  exact ⟨_, fd, F, He.glo_ok X G (c.fact 10 (f := .glo "gaps_of") rfl), F.bindsN fun _ _ _ _ _ _ us hl => match us, hl with | [_, _], _ => rfl⟩
theorem fn_mean_of {K : PySem.W.Frag} {h : Heap} {mg : Str → Option Value} (X : K.In h) (G : h.Ns mainGlobals mg) (c : He.SaysD fa fn K) : Fn K mg "mean_of" s_mean_of ["lap", "times"] := by
  obtain ⟨fd, F⟩ := c.def_ 11 (d := d_mean_of) rfl
  exact ⟨_, fd, F, He.glo_ok X G (c.fact 11 (f := .glo "mean_of") rfl), F.bindsN fun _ _ _ _ _ _ us hl => match us, hl with | [_, _], _ => rfl⟩
theorem fn_wait_by {K : PySem.W.Frag} {h : Heap} {mg : Str → Option Value} (X : K.In h) (G : h.Ns mainGlobals mg) (c : He.SaysD fa fn K) : Fn K mg "wait_by" s_wait_by ["lap", "times", "minute"] := by
  obtain ⟨fd, F⟩ := c.def_ 12 (d := d_wait_by) rfl
  exact ⟨_, fd, F, He.glo_ok X G (c.fact 12 (f := .glo "wait_by") rfl), F.bindsN fun _ _ _ _ _ _ us hl => match us, hl with | [_, _, _], _ => rfl⟩
theorem fn_wait_at {K : PySem.W.Frag} {h : Heap} {mg : Str → Option Value} (X : K.In h) (G : h.Ns mainGlobals mg) (c : He.SaysD fa fn K) : Fn K mg "wait_at" s_wait_at ["lap", "times", "minute"] := by
  obtain ⟨fd, F⟩ := c.def_ 13 (d := d_wait_at) rfl
  exact ⟨_, fd, F, He.glo_ok X G (c.fact 13 (f := .glo "wait_at") rfl), F.bindsN fun _ _ _ _ _ _ us hl => match us, hl with | [_, _, _], _ => rfl⟩
theorem fn_mean_wait {K : PySem.W.Frag} {h : Heap} {mg : Str → Option Value} (X : K.In h) (G : h.Ns mainGlobals mg) (c : He.SaysD fa fn K) : Fn K mg "mean_wait" s_mean_wait ["lap", "times"] := by
  obtain ⟨fd, F⟩ := c.def_ 14 (d := d_mean_wait) rfl
  exact ⟨_, fd, F, He.glo_ok X G (c.fact 14 (f := .glo "mean_wait") rfl), F.bindsN fun _ _ _ _ _ _ us hl => match us, hl with | [_, _], _ => rfl⟩
theorem fn_worst_wait {K : PySem.W.Frag} {h : Heap} {mg : Str → Option Value} (X : K.In h) (G : h.Ns mainGlobals mg) (c : He.SaysD fa fn K) : Fn K mg "worst_wait" s_worst_wait ["lap", "times"] := by
  obtain ⟨fd, F⟩ := c.def_ 15 (d := d_worst_wait) rfl
  exact ⟨_, fd, F, He.glo_ok X G (c.fact 15 (f := .glo "worst_wait") rfl), F.bindsN fun _ _ _ _ _ _ us hl => match us, hl with | [_, _], _ => rfl⟩
theorem fn_told_lengths {K : PySem.W.Frag} {h : Heap} {mg : Str → Option Value} (X : K.In h) (G : h.Ns mainGlobals mg) (c : He.SaysD fa fn K) : Fn K mg "told_lengths" s_told_lengths ["lap", "times"] := by
  obtain ⟨fd, F⟩ := c.def_ 16 (d := d_told_lengths) rfl
  exact ⟨_, fd, F, He.glo_ok X G (c.fact 16 (f := .glo "told_lengths") rfl), F.bindsN fun _ _ _ _ _ _ us hl => match us, hl with | [_, _], _ => rfl⟩
theorem fn_how_long {K : PySem.W.Frag} {h : Heap} {mg : Str → Option Value} (X : K.In h) (G : h.Ns mainGlobals mg) (c : He.SaysD fa fn K) : Fn K mg "how_long" s_how_long ["lap", "times"] := by
  obtain ⟨fd, F⟩ := c.def_ 17 (d := d_how_long) rfl
  exact ⟨_, fd, F, He.glo_ok X G (c.fact 17 (f := .glo "how_long") rfl), F.bindsN fun _ _ _ _ _ _ us hl => match us, hl with | [_, _], _ => rfl⟩
theorem fn_half_wait {K : PySem.W.Frag} {h : Heap} {mg : Str → Option Value} (X : K.In h) (G : h.Ns mainGlobals mg) (c : He.SaysD fa fn K) : Fn K mg "half_wait" s_half_wait ["lap", "times", "part"] := by
  obtain ⟨fd, F⟩ := c.def_ 18 (d := d_half_wait) rfl
  exact ⟨_, fd, F, He.glo_ok X G (c.fact 18 (f := .glo "half_wait") rfl), F.bindsN fun _ _ _ _ _ _ us hl => match us, hl with | [_, _, _], _ => rfl⟩
theorem fn_least_of {K : PySem.W.Frag} {h : Heap} {mg : Str → Option Value} (X : K.In h) (G : h.Ns mainGlobals mg) (c : He.SaysD fa fn K) : Fn K mg "least_of" s_least_of ["lap", "rows"] := by
  obtain ⟨fd, F⟩ := c.def_ 19 (d := d_least_of) rfl
  exact ⟨_, fd, F, He.glo_ok X G (c.fact 19 (f := .glo "least_of") rfl), F.bindsN fun _ _ _ _ _ _ us hl => match us, hl with | [_, _], _ => rfl⟩
theorem fn_one_more {K : PySem.W.Frag} {h : Heap} {mg : Str → Option Value} (X : K.In h) (G : h.Ns mainGlobals mg) (c : He.SaysD fa fn K) : Fn K mg "one_more" s_one_more ["lap", "times"] := by
  obtain ⟨fd, F⟩ := c.def_ 20 (d := d_one_more) rfl
  exact ⟨_, fd, F, He.glo_ok X G (c.fact 20 (f := .glo "one_more") rfl), F.bindsN fun _ _ _ _ _ _ us hl => match us, hl with | [_, _], _ => rfl⟩
theorem fn_one_less {K : PySem.W.Frag} {h : Heap} {mg : Str → Option Value} (X : K.In h) (G : h.Ns mainGlobals mg) (c : He.SaysD fa fn K) : Fn K mg "one_less" s_one_less ["lap", "times"] := by
  obtain ⟨fd, F⟩ := c.def_ 21 (d := d_one_less) rfl
  exact ⟨_, fd, F, He.glo_ok X G (c.fact 21 (f := .glo "one_less") rfl), F.bindsN fun _ _ _ _ _ _ us hl => match us, hl with | [_, _], _ => rfl⟩
theorem fn_even_times {K : PySem.W.Frag} {h : Heap} {mg : Str → Option Value} (X : K.In h) (G : h.Ns mainGlobals mg) (c : He.SaysD fa fn K) : Fn K mg "even_times" s_even_times ["lap", "many"] := by
  obtain ⟨fd, F⟩ := c.def_ 22 (d := d_even_times) rfl
  exact ⟨_, fd, F, He.glo_ok X G (c.fact 22 (f := .glo "even_times") rfl), F.bindsN fun _ _ _ _ _ _ us hl => match us, hl with | [_, _], _ => rfl⟩
theorem fn_check_spread {K : PySem.W.Frag} {h : Heap} {mg : Str → Option Value} (X : K.In h) (G : h.Ns mainGlobals mg) (c : He.SaysD fa fn K) : Fn K mg "check_spread" s_check_spread ["lap", "many"] := by
  obtain ⟨fd, F⟩ := c.def_ 23 (d := d_check_spread) rfl
  exact ⟨_, fd, F, He.glo_ok X G (c.fact 23 (f := .glo "check_spread") rfl), F.bindsN fun _ _ _ _ _ _ us hl => match us, hl with | [_, _], _ => rfl⟩
theorem fn_spread {K : PySem.W.Frag} {h : Heap} {mg : Str → Option Value} (X : K.In h) (G : h.Ns mainGlobals mg) (c : He.SaysD fa fn K) : Fn K mg "spread" s_spread ["lap", "many"] := by
  obtain ⟨fd, F⟩ := c.def_ 24 (d := d_spread) rfl
  exact ⟨_, fd, F, He.glo_ok X G (c.fact 24 (f := .glo "spread") rfl), F.bindsN fun _ _ _ _ _ _ us hl => match us, hl with | [_, _], _ => rfl⟩
theorem fn_check_most {K : PySem.W.Frag} {h : Heap} {mg : Str → Option Value} (X : K.In h) (G : h.Ns mainGlobals mg) (c : He.SaysD fa fn K) : Fn K mg "check_most" s_check_most ["lap", "most"] := by
  obtain ⟨fd, F⟩ := c.def_ 25 (d := d_check_most) rfl
  exact ⟨_, fd, F, He.glo_ok X G (c.fact 25 (f := .glo "check_most") rfl), F.bindsN fun _ _ _ _ _ _ us hl => match us, hl with | [_, _], _ => rfl⟩
theorem fn_enough_for {K : PySem.W.Frag} {h : Heap} {mg : Str → Option Value} (X : K.In h) (G : h.Ns mainGlobals mg) (c : He.SaysD fa fn K) : Fn K mg "enough_for" s_enough_for ["lap", "most"] := by
  obtain ⟨fd, F⟩ := c.def_ 26 (d := d_enough_for) rfl
  exact ⟨_, fd, F, He.glo_ok X G (c.fact 26 (f := .glo "enough_for") rfl), F.bindsN fun _ _ _ _ _ _ us hl => match us, hl with | [_, _], _ => rfl⟩
theorem fn_check_both {K : PySem.W.Frag} {h : Heap} {mg : Str → Option Value} (X : K.In h) (G : h.Ns mainGlobals mg) (c : He.SaysD fa fn K) : Fn K mg "check_both" s_check_both ["lap", "one", "other", "change"] := by
  obtain ⟨fd, F⟩ := c.def_ 27 (d := d_check_both) rfl
  exact ⟨_, fd, F, He.glo_ok X G (c.fact 27 (f := .glo "check_both") rfl), F.bindsN fun _ _ _ _ _ _ us hl => match us, hl with | [_, _, _, _], _ => rfl⟩
theorem fn_put_later {K : PySem.W.Frag} {h : Heap} {mg : Str → Option Value} (X : K.In h) (G : h.Ns mainGlobals mg) (c : He.SaysD fa fn K) : Fn K mg "put_later" s_put_later ["lap", "times", "shift"] := by
  obtain ⟨fd, F⟩ := c.def_ 28 (d := d_put_later) rfl
  exact ⟨_, fd, F, He.glo_ok X G (c.fact 28 (f := .glo "put_later") rfl), F.bindsN fun _ _ _ _ _ _ us hl => match us, hl with | [_, _, _], _ => rfl⟩
theorem fn_change_by {K : PySem.W.Frag} {h : Heap} {mg : Str → Option Value} (X : K.In h) (G : h.Ns mainGlobals mg) (c : He.SaysD fa fn K) : Fn K mg "change_by" s_change_by ["lap", "one", "other", "change"] := by
  obtain ⟨fd, F⟩ := c.def_ 29 (d := d_change_by) rfl
  exact ⟨_, fd, F, He.glo_ok X G (c.fact 29 (f := .glo "change_by") rfl), F.bindsN fun _ _ _ _ _ _ us hl => match us, hl with | [_, _, _, _], _ => rfl⟩
theorem fn_change_wait {K : PySem.W.Frag} {h : Heap} {mg : Str → Option Value} (X : K.In h) (G : h.Ns mainGlobals mg) (c : He.SaysD fa fn K) : Fn K mg "change_wait" s_change_wait ["lap", "one", "other", "change"] := by
  obtain ⟨fd, F⟩ := c.def_ 30 (d := d_change_wait) rfl
  exact ⟨_, fd, F, He.glo_ok X G (c.fact 30 (f := .glo "change_wait") rfl), F.bindsN fun _ _ _ _ _ _ us hl => match us, hl with | [_, _, _, _], _ => rfl⟩
theorem fn_least_shift {K : PySem.W.Frag} {h : Heap} {mg : Str → Option Value} (X : K.In h) (G : h.Ns mainGlobals mg) (c : He.SaysD fa fn K) : Fn K mg "least_shift" s_least_shift ["means"] := by
  obtain ⟨fd, F⟩ := c.def_ 31 (d := d_least_shift) rfl
  exact ⟨_, fd, F, He.glo_ok X G (c.fact 31 (f := .glo "least_shift") rfl), F.bindsN fun _ _ _ _ _ _ us hl => match us, hl with | [_], _ => rfl⟩
theorem fn_best_shift {K : PySem.W.Frag} {h : Heap} {mg : Str → Option Value} (X : K.In h) (G : h.Ns mainGlobals mg) (c : He.SaysD fa fn K) : Fn K mg "best_shift" s_best_shift ["lap", "one", "other", "change"] := by
  obtain ⟨fd, F⟩ := c.def_ 32 (d := d_best_shift) rfl
  exact ⟨_, fd, F, He.glo_ok X G (c.fact 32 (f := .glo "best_shift") rfl), F.bindsN fun _ _ _ _ _ _ us hl => match us, hl with | [_, _, _, _], _ => rfl⟩
theorem fn_together {K : PySem.W.Frag} {h : Heap} {mg : Str → Option Value} (X : K.In h) (G : h.Ns mainGlobals mg) (c : He.SaysD fa fn K) : Fn K mg "together" s_together ["lap", "one", "other"] := by
  obtain ⟨fd, F⟩ := c.def_ 33 (d := d_together) rfl
  exact ⟨_, fd, F, He.glo_ok X G (c.fact 33 (f := .glo "together") rfl), F.bindsN fun _ _ _ _ _ _ us hl => match us, hl with | [_, _, _], _ => rfl⟩
theorem fn_check_late {K : PySem.W.Frag} {h : Heap} {mg : Str → Option Value} (X : K.In h) (G : h.Ns mainGlobals mg) (c : He.SaysD fa fn K) : Fn K mg "check_late" s_check_late ["lap", "times", "late"] := by
  obtain ⟨fd, F⟩ := c.def_ 34 (d := d_check_late) rfl
  exact ⟨_, fd, F, He.glo_ok X G (c.fact 34 (f := .glo "check_late") rfl), F.bindsN fun _ _ _ _ _ _ us hl => match us, hl with | [_, _, _], _ => rfl⟩
theorem fn_put_each {K : PySem.W.Frag} {h : Heap} {mg : Str → Option Value} (X : K.In h) (G : h.Ns mainGlobals mg) (c : He.SaysD fa fn K) : Fn K mg "put_each" s_put_each ["lap", "times", "lates"] := by
  obtain ⟨fd, F⟩ := c.def_ 35 (d := d_put_each) rfl
  exact ⟨_, fd, F, He.glo_ok X G (c.fact 35 (f := .glo "put_each") rfl), F.bindsN fun _ _ _ _ _ _ us hl => match us, hl with | [_, _, _], _ => rfl⟩
theorem fn_cost_of {K : PySem.W.Frag} {h : Heap} {mg : Str → Option Value} (X : K.In h) (G : h.Ns mainGlobals mg) (c : He.SaysD fa fn K) : Fn K mg "cost_of" s_cost_of ["gap"] := by
  obtain ⟨fd, F⟩ := c.def_ 36 (d := d_cost_of) rfl
  exact ⟨_, fd, F, He.glo_ok X G (c.fact 36 (f := .glo "cost_of") rfl), F.bindsN fun _ _ _ _ _ _ us hl => match us, hl with | [_], _ => rfl⟩
theorem fn_best_lates {K : PySem.W.Frag} {h : Heap} {mg : Str → Option Value} (X : K.In h) (G : h.Ns mainGlobals mg) (c : He.SaysD fa fn K) : Fn K mg "best_lates" s_best_lates ["lap", "times", "choices", "sign"] := by
  obtain ⟨fd, F⟩ := c.def_ 37 (d := d_best_lates) rfl
  exact ⟨_, fd, F, He.glo_ok X G (c.fact 37 (f := .glo "best_lates") rfl), F.bindsN fun _ _ _ _ _ _ us hl => match us, hl with | [_, _, _, _], _ => rfl⟩
theorem fn_told_lates {K : PySem.W.Frag} {h : Heap} {mg : Str → Option Value} (X : K.In h) (G : h.Ns mainGlobals mg) (c : He.SaysD fa fn K) : Fn K mg "told_lates" s_told_lates ["lap", "times", "late", "is_worst"] := by
  obtain ⟨fd, F⟩ := c.def_ 38 (d := d_told_lates) rfl
  exact ⟨_, fd, F, He.glo_ok X G (c.fact 38 (f := .glo "told_lates") rfl), F.bindsN fun _ _ _ _ _ _ us hl => match us, hl with | [_, _, _, _], _ => rfl⟩
theorem fn_at_worst {K : PySem.W.Frag} {h : Heap} {mg : Str → Option Value} (X : K.In h) (G : h.Ns mainGlobals mg) (c : He.SaysD fa fn K) : Fn K mg "at_worst" s_at_worst ["lap", "times", "late"] := by
  obtain ⟨fd, F⟩ := c.def_ 39 (d := d_at_worst) rfl
  exact ⟨_, fd, F, He.glo_ok X G (c.fact 39 (f := .glo "at_worst") rfl), F.bindsN fun _ _ _ _ _ _ us hl => match us, hl with | [_, _, _], _ => rfl⟩
theorem fn_held {K : PySem.W.Frag} {h : Heap} {mg : Str → Option Value} (X : K.In h) (G : h.Ns mainGlobals mg) (c : He.SaysD fa fn K) : Fn K mg "held" s_held ["lap", "times", "late"] := by
  obtain ⟨fd, F⟩ := c.def_ 40 (d := d_held) rfl
  exact ⟨_, fd, F, He.glo_ok X G (c.fact 40 (f := .glo "held") rfl), F.bindsN fun _ _ _ _ _ _ us hl => match us, hl with | [_, _, _], _ => rfl⟩
theorem fn__law_pot {K : PySem.W.Frag} {h : Heap} {mg : Str → Option Value} (X : K.In h) (G : h.Ns mainGlobals mg) (c : He.SaysD fa fn K) : Fn K mg "_law_pot" s__law_pot ["script", "place"] := by
  obtain ⟨fd, F⟩ := c.def_ 41 (d := d__law_pot) rfl
  exact ⟨_, fd, F, He.glo_ok X G (c.fact 41 (f := .glo "_law_pot") rfl), F.bindsN fun _ _ _ _ _ _ us hl => match us, hl with | [_, _], _ => rfl⟩
theorem fn__law_take {K : PySem.W.Frag} {h : Heap} {mg : Str → Option Value} (X : K.In h) (G : h.Ns mainGlobals mg) (c : He.SaysD fa fn K) : Fn K mg "_law_take" s__law_take ["pot", "upto"] := by
  obtain ⟨fd, F⟩ := c.def_ 42 (d := d__law_take) rfl
  exact ⟨_, fd, F, He.glo_ok X G (c.fact 42 (f := .glo "_law_take") rfl), F.bindsN fun _ _ _ _ _ _ us hl => match us, hl with | [_, _], _ => rfl⟩
theorem fn__law_of {K : PySem.W.Frag} {h : Heap} {mg : Str → Option Value} (X : K.In h) (G : h.Ns mainGlobals mg) (c : He.SaysD fa fn K) : Fn K mg "_law_of" s__law_of ["pot", "some"] := by
  obtain ⟨fd, F⟩ := c.def_ 43 (d := d__law_of) rfl
  exact ⟨_, fd, F, He.glo_ok X G (c.fact 43 (f := .glo "_law_of") rfl), F.bindsN fun _ _ _ _ _ _ us hl => match us, hl with | [_, _], _ => rfl⟩
theorem fn__law_some {K : PySem.W.Frag} {h : Heap} {mg : Str → Option Value} (X : K.In h) (G : h.Ns mainGlobals mg) (c : He.SaysD fa fn K) : Fn K mg "_law_some" s__law_some ["pot", "some", "amount"] := by
  obtain ⟨fd, F⟩ := c.def_ 44 (d := d__law_some) rfl
  exact ⟨_, fd, F, He.glo_ok X G (c.fact 44 (f := .glo "_law_some") rfl), F.bindsN fun _ _ _ _ _ _ us hl => match us, hl with | [_, _, _], _ => rfl⟩
theorem fn__law_cells {K : PySem.W.Frag} {h : Heap} {mg : Str → Option Value} (X : K.In h) (G : h.Ns mainGlobals mg) (c : He.SaysD fa fn K) : Fn K mg "_law_cells" s__law_cells ["script", "limit"] := by
  obtain ⟨fd, F⟩ := c.def_ 45 (d := d__law_cells) rfl
  exact ⟨_, fd, F, He.glo_ok X G (c.fact 45 (f := .glo "_law_cells") rfl), F.bindsN fun _ _ _ _ _ _ us hl => match us, hl with | [_, _], _ => rfl⟩
theorem fn__law_fraction {K : PySem.W.Frag} {h : Heap} {mg : Str → Option Value} (X : K.In h) (G : h.Ns mainGlobals mg) (c : He.SaysD fa fn K) : Fn K mg "_law_fraction" s__law_fraction ["top", "low"] := by
  obtain ⟨fd, F⟩ := c.def_ 46 (d := d__law_fraction) rfl
  exact ⟨_, fd, F, He.glo_ok X G (c.fact 46 (f := .glo "_law_fraction") rfl), F.bindsN fun _ _ _ _ _ _ us hl => match us, hl with | [_, _], _ => rfl⟩
theorem fn__law_times {K : PySem.W.Frag} {h : Heap} {mg : Str → Option Value} (X : K.In h) (G : h.Ns mainGlobals mg) (c : He.SaysD fa fn K) : Fn K mg "_law_times" s__law_times ["pot", "lap", "most"] := by
  obtain ⟨fd, F⟩ := c.def_ 47 (d := d__law_times) rfl
  exact ⟨_, fd, F, He.glo_ok X G (c.fact 47 (f := .glo "_law_times") rfl), F.bindsN fun _ _ _ _ _ _ us hl => match us, hl with | [_, _, _], _ => rfl⟩
theorem fn__law_gaps {K : PySem.W.Frag} {h : Heap} {mg : Str → Option Value} (X : K.In h) (G : h.Ns mainGlobals mg) (c : He.SaysD fa fn K) : Fn K mg "_law_gaps" s__law_gaps ["lap", "times"] := by
  obtain ⟨fd, F⟩ := c.def_ 48 (d := d__law_gaps) rfl
  exact ⟨_, fd, F, He.glo_ok X G (c.fact 48 (f := .glo "_law_gaps") rfl), F.bindsN fun _ _ _ _ _ _ us hl => match us, hl with | [_, _], _ => rfl⟩
theorem fn__law_is_less {K : PySem.W.Frag} {h : Heap} {mg : Str → Option Value} (X : K.In h) (G : h.Ns mainGlobals mg) (c : He.SaysD fa fn K) : Fn K mg "_law_is_less" s__law_is_less ["one", "other"] := by
  obtain ⟨fd, F⟩ := c.def_ 49 (d := d__law_is_less) rfl
  exact ⟨_, fd, F, He.glo_ok X G (c.fact 49 (f := .glo "_law_is_less") rfl), F.bindsN fun _ _ _ _ _ _ us hl => match us, hl with | [_, _], _ => rfl⟩
theorem fn__law_times_by {K : PySem.W.Frag} {h : Heap} {mg : Str → Option Value} (X : K.In h) (G : h.Ns mainGlobals mg) (c : He.SaysD fa fn K) : Fn K mg "_law_times_by" s__law_times_by ["times", "by"] := by
  obtain ⟨fd, F⟩ := c.def_ 50 (d := d__law_times_by) rfl
  exact ⟨_, fd, F, He.glo_ok X G (c.fact 50 (f := .glo "_law_times_by") rfl), F.bindsN fun _ _ _ _ _ _ us hl => match us, hl with | [_, _], _ => rfl⟩
theorem fn__law_mirror {K : PySem.W.Frag} {h : Heap} {mg : Str → Option Value} (X : K.In h) (G : h.Ns mainGlobals mg) (c : He.SaysD fa fn K) : Fn K mg "_law_mirror" s__law_mirror ["lap", "times"] := by
  obtain ⟨fd, F⟩ := c.def_ 51 (d := d__law_mirror) rfl
  exact ⟨_, fd, F, He.glo_ok X G (c.fact 51 (f := .glo "_law_mirror") rfl), F.bindsN fun _ _ _ _ _ _ us hl => match us, hl with | [_, _], _ => rfl⟩
theorem fn__law_is_great_right {K : PySem.W.Frag} {h : Heap} {mg : Str → Option Value} (X : K.In h) (G : h.Ns mainGlobals mg) (c : He.SaysD fa fn K) : Fn K mg "_law_is_great_right" s__law_is_great_right ["pot", "lap", "times", "by"] := by
  obtain ⟨fd, F⟩ := c.def_ 52 (d := d__law_is_great_right) rfl
  exact ⟨_, fd, F, He.glo_ok X G (c.fact 52 (f := .glo "_law_is_great_right") rfl), F.bindsN fun _ _ _ _ _ _ us hl => match us, hl with | [_, _, _, _], _ => rfl⟩
theorem fn__law_are_two_right {K : PySem.W.Frag} {h : Heap} {mg : Str → Option Value} (X : K.In h) (G : h.Ns mainGlobals mg) (c : He.SaysD fa fn K) : Fn K mg "_law_are_two_right" s__law_are_two_right ["pot", "lap", "one", "other", "by"] := by
  obtain ⟨fd, F⟩ := c.def_ 53 (d := d__law_are_two_right) rfl
  exact ⟨_, fd, F, He.glo_ok X G (c.fact 53 (f := .glo "_law_are_two_right") rfl), F.bindsN fun _ _ _ _ _ _ us hl => match us, hl with | [_, _, _, _, _], _ => rfl⟩
theorem fn__law_is_mirror_right {K : PySem.W.Frag} {h : Heap} {mg : Str → Option Value} (X : K.In h) (G : h.Ns mainGlobals mg) (c : He.SaysD fa fn K) : Fn K mg "_law_is_mirror_right" s__law_is_mirror_right ["pot", "lap", "times"] := by
  obtain ⟨fd, F⟩ := c.def_ 54 (d := d__law_is_mirror_right) rfl
  exact ⟨_, fd, F, He.glo_ok X G (c.fact 54 (f := .glo "_law_is_mirror_right") rfl), F.bindsN fun _ _ _ _ _ _ us hl => match us, hl with | [_, _, _], _ => rfl⟩
theorem fn__law_is_row_right {K : PySem.W.Frag} {h : Heap} {mg : Str → Option Value} (X : K.In h) (G : h.Ns mainGlobals mg) (c : He.SaysD fa fn K) : Fn K mg "_law_is_row_right" s__law_is_row_right ["lap", "times"] := by
  obtain ⟨fd, F⟩ := c.def_ 55 (d := d__law_is_row_right) rfl
  exact ⟨_, fd, F, He.glo_ok X G (c.fact 55 (f := .glo "_law_is_row_right") rfl), F.bindsN fun _ _ _ _ _ _ us hl => match us, hl with | [_, _], _ => rfl⟩
theorem fn__law_is_enough_right {K : PySem.W.Frag} {h : Heap} {mg : Str → Option Value} (X : K.In h) (G : h.Ns mainGlobals mg) (c : He.SaysD fa fn K) : Fn K mg "_law_is_enough_right" s__law_is_enough_right ["pot", "lap"] := by
  obtain ⟨fd, F⟩ := c.def_ 56 (d := d__law_is_enough_right) rfl
  exact ⟨_, fd, F, He.glo_ok X G (c.fact 56 (f := .glo "_law_is_enough_right") rfl), F.bindsN fun _ _ _ _ _ _ us hl => match us, hl with | [_, _], _ => rfl⟩
theorem fn__law_right {K : PySem.W.Frag} {h : Heap} {mg : Str → Option Value} (X : K.In h) (G : h.Ns mainGlobals mg) (c : He.SaysD fa fn K) : Fn K mg "_law_right" s__law_right ["pot"] := by
  obtain ⟨fd, F⟩ := c.def_ 57 (d := d__law_right) rfl
  exact ⟨_, fd, F, He.glo_ok X G (c.fact 57 (f := .glo "_law_right") rfl), F.bindsN fun _ _ _ _ _ _ us hl => match us, hl with | [_], _ => rfl⟩
theorem facts {P : Program} {w : World} {K : PySem.W.Frag} {h : Heap} {mg : Str → Option Value} {f : Addr} (X : K.In h) (G : h.Ns mainGlobals mg) (hfa : mg ("law" : Str) = some (.ref f)) (c : He.SaysD fa fn K) :
    ∃ fd : FuncData, (∀ (s : Shared) (v : Value), BindsTo s fd ⟨[v], []⟩ [("script", v)]) ∧ ∀ base : Heap, K.In base → base.Ns mainGlobals mg → FnOk P w K mg base CX0 9 f fd ["script"] (spA K S_law) := by
  have B := bas_of X G c
  obtain ⟨fd, F⟩ := c.def_ 58 (d := d_law) rfl
  have e := hfa.symm.trans (He.glo_ok X G (c.fact 58 (f := .glo "law") rfl))
  cases e
  have b := FunD.bindsA (ps := ["script"]) F fun _ _ _ _ _ _ us hl => match us, hl with | [_], _ => rfl
  refine ⟨fd, fun s v => b s [v] rfl, fun base _ _ => ?_⟩
  have c_is_integer := C_is_integer (P := P) (w := w) (base := base) B (fn_is_integer X G c) 
  have c_is_ascending := C_is_ascending (P := P) (w := w) (base := base) B (fn_is_ascending X G c) 
  have c_common := C_common (P := P) (w := w) (base := base) B (fn_common X G c) 
  have c_less := C_less (P := P) (w := w) (base := base) B (fn_less X G c) 
  have c_gaps_of := C_gaps_of (P := P) (w := w) (base := base) B (fn_gaps_of X G c) 
  have c_wait_by := C_wait_by (P := P) (w := w) (base := base) B (fn_wait_by X G c) 
  have c_even_times := C_even_times (P := P) (w := w) (base := base) B (fn_even_times X G c) 
  have c_put_later := C_put_later (P := P) (w := w) (base := base) B (fn_put_later X G c) 
  have c_put_each := C_put_each (P := P) (w := w) (base := base) B (fn_put_each X G c) 
  have c_cost_of := C_cost_of (P := P) (w := w) (base := base) B (fn_cost_of X G c) 
  have c__law_pot := C__law_pot (P := P) (w := w) (base := base) B (fn__law_pot X G c) 
  have c__law_take := C__law_take (P := P) (w := w) (base := base) B (fn__law_take X G c) 
  have c__law_cells := C__law_cells (P := P) (w := w) (base := base) B (fn__law_cells X G c) 
  have c__law_fraction := C__law_fraction (P := P) (w := w) (base := base) B (fn__law_fraction X G c) 
  have c__law_gaps := C__law_gaps (P := P) (w := w) (base := base) B (fn__law_gaps X G c) 
  have c__law_is_less := C__law_is_less (P := P) (w := w) (base := base) B (fn__law_is_less X G c) 
  have c__law_times_by := C__law_times_by (P := P) (w := w) (base := base) B (fn__law_times_by X G c) 
  have c__law_mirror := C__law_mirror (P := P) (w := w) (base := base) B (fn__law_mirror X G c) 
  have c_is_between := C_is_between (P := P) (w := w) (base := base) B (fn_is_between X G c) c_is_integer
  have c_reduced := C_reduced (P := P) (w := w) (base := base) B (fn_reduced X G c) c_common
  have c_is_fraction := C_is_fraction (P := P) (w := w) (base := base) B (fn_is_fraction X G c) c_common c_is_integer
  have c_told_lengths := C_told_lengths (P := P) (w := w) (base := base) B (fn_told_lengths X G c) c_gaps_of
  have c_least_shift := C_least_shift (P := P) (w := w) (base := base) B (fn_least_shift X G c) c_less
  have c_best_lates := C_best_lates (P := P) (w := w) (base := base) B (fn_best_lates X G c) c_cost_of c_gaps_of
  have c__law_of := C__law_of (P := P) (w := w) (base := base) B (fn__law_of X G c) c__law_take
  have c__law_some := C__law_some (P := P) (w := w) (base := base) B (fn__law_some X G c) c__law_take
  have c_check_lap := C_check_lap (P := P) (w := w) (base := base) B (fn_check_lap X G c) c_is_between
  have c_are_times := C_are_times (P := P) (w := w) (base := base) B (fn_are_times X G c) c_is_ascending c_is_between
  have c_mean_of := C_mean_of (P := P) (w := w) (base := base) B (fn_mean_of X G c) c_gaps_of c_reduced
  have c_change_by := C_change_by (P := P) (w := w) (base := base) B (fn_change_by X G c) c_reduced c_wait_by
  have c__law_times := C__law_times (P := P) (w := w) (base := base) B (fn__law_times X G c) c__law_some c__law_take
  have c_check_times := C_check_times (P := P) (w := w) (base := base) B (fn_check_times X G c) c_are_times c_check_lap
  have c_least_of := C_least_of (P := P) (w := w) (base := base) B (fn_least_of X G c) c_less c_mean_of
  have c_check_spread := C_check_spread (P := P) (w := w) (base := base) B (fn_check_spread X G c) c_check_lap c_is_between
  have c_check_most := C_check_most (P := P) (w := w) (base := base) B (fn_check_most X G c) c_check_lap c_is_between
  have c_told_lates := C_told_lates (P := P) (w := w) (base := base) B (fn_told_lates X G c) c_best_lates c_mean_of c_put_each
  have c_wait_at := C_wait_at (P := P) (w := w) (base := base) B (fn_wait_at X G c) c_check_times c_is_between c_wait_by
  have c_mean_wait := C_mean_wait (P := P) (w := w) (base := base) B (fn_mean_wait X G c) c_check_times c_mean_of
  have c_worst_wait := C_worst_wait (P := P) (w := w) (base := base) B (fn_worst_wait X G c) c_check_times c_gaps_of
  have c_how_long := C_how_long (P := P) (w := w) (base := base) B (fn_how_long X G c) c_check_times c_told_lengths
  have c_half_wait := C_half_wait (P := P) (w := w) (base := base) B (fn_half_wait X G c) c_check_times c_is_fraction c_told_lengths
  have c_one_more := C_one_more (P := P) (w := w) (base := base) B (fn_one_more X G c) c_check_times c_least_of
  have c_one_less := C_one_less (P := P) (w := w) (base := base) B (fn_one_less X G c) c_check_times c_least_of
  have c_spread := C_spread (P := P) (w := w) (base := base) B (fn_spread X G c) c_check_spread c_even_times c_mean_of
  have c_enough_for := C_enough_for (P := P) (w := w) (base := base) B (fn_enough_for X G c) c_check_most c_even_times
  have c_check_both := C_check_both (P := P) (w := w) (base := base) B (fn_check_both X G c) c_check_times c_is_between
  have c_check_late := C_check_late (P := P) (w := w) (base := base) B (fn_check_late X G c) c_check_times c_gaps_of c_is_between
  have c_change_wait := C_change_wait (P := P) (w := w) (base := base) B (fn_change_wait X G c) c_change_by c_check_both
  have c_best_shift := C_best_shift (P := P) (w := w) (base := base) B (fn_best_shift X G c) c_change_by c_check_both c_least_shift c_put_later
  have c_together := C_together (P := P) (w := w) (base := base) B (fn_together X G c) c_check_both c_least_shift c_mean_of c_put_later
  have c_at_worst := C_at_worst (P := P) (w := w) (base := base) B (fn_at_worst X G c) c_check_late c_told_lates
  have c_held := C_held (P := P) (w := w) (base := base) B (fn_held X G c) c_check_late c_told_lates
  have c__law_is_great_right := C__law_is_great_right (P := P) (w := w) (base := base) B (fn__law_is_great_right X G c) c__law_fraction c__law_take c__law_times_by c_half_wait c_how_long c_mean_wait c_wait_at c_worst_wait
  have c__law_is_row_right := C__law_is_row_right (P := P) (w := w) (base := base) B (fn__law_is_row_right X G c) c__law_fraction c__law_is_less c_mean_wait c_one_less c_one_more c_worst_wait
  have c__law_is_enough_right := C__law_is_enough_right (P := P) (w := w) (base := base) B (fn__law_is_enough_right X G c) c__law_take c_enough_for c_spread c_worst_wait
  have c__law_are_two_right := C__law_are_two_right (P := P) (w := w) (base := base) B (fn__law_are_two_right X G c) c__law_fraction c__law_is_less c__law_take c__law_times_by c_best_shift c_change_wait c_mean_wait c_together
  have c__law_is_mirror_right := C__law_is_mirror_right (P := P) (w := w) (base := base) B (fn__law_is_mirror_right X G c) c__law_gaps c__law_mirror c__law_take c_at_worst c_held c_how_long c_mean_wait c_worst_wait
  have c__law_right := C__law_right (P := P) (w := w) (base := base) B (fn__law_right X G c) c__law_are_two_right c__law_is_enough_right c__law_is_great_right c__law_is_mirror_right c__law_is_row_right c__law_of c__law_take c__law_times
  exact ok_law B F c__law_cells c__law_pot c__law_right
end
end S18

open PySem PySem.W PySem.Calls PyProof.Rows
theorem PySem.Challenge.cw_howeverlate_k32_whole_lines_times_as_gre_holds : PySem.Challenge.rw_howeverlate_k32_whole_lines_times_as_gre.Holds := by
  w_on; o_law
  refine HandSHeadRun.head_any (r := OpenLaw.row PySem.Challenge.rw_howeverlate_k32_whole_lines_times_as_gre) (q := view (OpenLaw.row PySem.Challenge.rw_howeverlate_k32_whole_lines_times_as_gre).prog [76]) (H := S18.hk) (ob := S18.ob) (M := 8000) (loose := S18.loose) (d := HandSHeadRun.topDef (OpenLaw.row PySem.Challenge.rw_howeverlate_k32_whole_lines_times_as_gre).prog 76) (kwd := []) S18.ob_eq
    (by kernel_rfl) (fun s => by kernel_rfl) S18.run (by kernel_rfl) (by kernel_rfl) (by kernel_rfl) (by rfl) (by first | assumption | decide +kernel) (by decide +kernel) ⟨rfl, rfl, rfl, rfl, rfl, by decide +kernel⟩ ?hw ?hc
  case hw => w_witness2
  case hc =>
    refine L2.walk_ofE (l := PySem.Challenge.rw_howeverlate_k32_whole_lines_times_as_gre) (n := 63) (k := 9) (x := "script") (CX := L2.CX0) rfl (by decide) (by kernel_rfl) ⟨rfl, by decide, by decide⟩ ?F (fun _ _ _ _ z => z)
    intro w mg fa h Y G hmg0
    obtain ⟨K, KX, c⟩ := Y
    have hmg : mg ("law" : PySem.Str) = some (.ref fa) := by
      have e : (HandSHeadRun.topDef (OpenLaw.row PySem.Challenge.rw_howeverlate_k32_whole_lines_times_as_gre).prog 76).name = ("law" : PySem.Str) := by kernel_rfl
      rw [← e]
      exact hmg0
    obtain ⟨fd, hb, hF⟩ := S18.facts (P := (PySem.Challenge.rw_howeverlate_k32_whole_lines_times_as_gre).prog) (w := w) KX G hmg c
    refine ⟨K, fd, AL.spA K S18.S_law, KX, hb, fun H a ns hl _ hS => ?_, hF⟩
    exact ⟨H, [.d (.list (AL.dI ns))], [], fun s _ => s = .d (.bool true), L2.Same.refl H, AL.OwnOk.nil, .cons (L2.Dp.lst hS (AL.ints_dp ns)) .nil, ⟨ns, rfl, hl, fun _ => rfl⟩, fun v F' H' s O' _ hv hs => by
      subst hs
      cases hv
      rfl⟩

