import PyProof.Rows.All
import Wide.All
import OpenK.AllK
import Wide.FinOn
import HandS.ForMost
import HandS.IsInst
import HandS.Walk
import HandS.Zip
import HandS.Rev
import HandS.TupAny
import HandS.TupLe
import HandS.Wide
import HandS.Lambda
import KE.GoesEnum
import PySem.Challenge.RW_rowwright_k01_rows_and_lots
set_option Elab.async false
set_option linter.all false
set_option maxRecDepth 100000
set_option maxHeartbeats 4000000
namespace Rw
open PySem PySem.Spec PyProof.Rows L2

mutual
inductive Dd (H : Hp) : V → PyData → Prop
  | non : Dd H .non .none
  | bl (b : Bool) : Dd H (.bl b) (.bool b)
  | int (i : Int) : Dd H (.int i) (.int i)
  | str (x : Str) : Dd H (.str x) (.str x)
  | lst {a : Addr} {xs : List V} {ds : List PyData} : H a = some (.lst xs) → DdAll H xs ds → Dd H (.ref a) (.list ds)
  | tup {a : Addr} {xs : List V} {ds : List PyData} : H a = some (.tup xs) → DdAll H xs ds → Dd H (.ref a) (.tuple ds)
inductive DdAll (H : Hp) : List V → List PyData → Prop
  | nil : DdAll H [] []
  | cons {v : V} {vs : List V} {d : PyData} {ds : List PyData} : Dd H v d → DdAll H vs ds → DdAll H (v :: vs) (d :: ds)
end
abbrev Sub (H H' : Hp) : Prop := ∀ b o, H b = some o → H' b = some o
section
variable {H H' : Hp}
mutual
theorem Dd.mono (e : Sub H H') : ∀ {d : PyData} {v : V}, Dd H v d → Dd H' v d
  | .none, _, h => by cases h; exact .non
  | .bool _, _, h => by cases h; exact .bl _
  | .int _, _, h => by cases h; exact .int _
  | .str _, _, h => by cases h; exact .str _
  | .list _, _, h => by cases h with | lst h1 h2 => exact .lst (e _ _ h1) (DdAll.mono e h2)
  | .tuple _, _, h => by cases h with | tup h1 h2 => exact .tup (e _ _ h1) (DdAll.mono e h2)
  | .dict _, _, h => by cases h
theorem DdAll.mono (e : Sub H H') : ∀ {ds : List PyData} {vs : List V}, DdAll H vs ds → DdAll H' vs ds
  | [], _, h => by cases h; exact .nil
  | _ :: _, _, h => by cases h with | cons h1 h2 => exact .cons (Dd.mono e h1) (DdAll.mono e h2)
end
mutual
theorem Dd.dp {K : PySem.W.Frag} : ∀ {d : PyData} {v : V}, Dd H v d → Dp K H v d
  | .none, _, h => by cases h; exact .non
  | .bool _, _, h => by cases h; exact .bl _
  | .int _, _, h => by cases h; exact .int _
  | .str _, _, h => by cases h; exact .str _
  | .list _, _, h => by cases h with | lst h1 h2 => exact .lst (SqL.of h1) (DdAll.dp h2)
  | .tuple _, _, h => by cases h with | tup h1 h2 => exact .tup (SqT.of h1) (DdAll.dp h2)
  | .dict _, _, h => by cases h
theorem DdAll.dp {K : PySem.W.Frag} : ∀ {ds : List PyData} {vs : List V}, DdAll H vs ds → DpAll K H vs ds
  | [], _, h => by cases h; exact .nil
  | _ :: _, _, h => by cases h with | cons h1 h2 => exact .cons (Dd.dp h1) (DdAll.dp h2)
end
theorem DdAll.len : ∀ {ds : List PyData} {vs : List V}, DdAll H vs ds → vs.length = ds.length
  | [], _, h => by cases h; rfl
  | _ :: _, _, h => by cases h with | cons _ h2 => rw [List.length_cons, List.length_cons, DdAll.len h2]
theorem DdAll.get : ∀ {ds : List PyData} {vs : List V} {i : Nat} {d : PyData}, DdAll H vs ds → ds[i]? = some d → ∃ v, vs[i]? = some v ∧ Dd H v d
  | [], _, _, _, h, e => by simp at e
  | _ :: _, _, 0, _, h, e => by
    cases h with | cons h1 h2 => simp at e; subst e; exact ⟨_, rfl, h1⟩
  | _ :: _, _, i + 1, _, h, e => by
    cases h with | cons h1 h2 =>
      obtain ⟨v, q1, q2⟩ := DdAll.get h2 (show _ = some _ by simpa using e)
      exact ⟨v, by simpa using q1, q2⟩
theorem DdAll.get' : ∀ {ds : List PyData} {vs : List V} {i : Nat} {v : V}, DdAll H vs ds → vs[i]? = some v → ∃ d, ds[i]? = some d ∧ Dd H v d
  | [], _, _, _, h, e => by cases h; simp at e
  | _ :: _, _, 0, _, h, e => by
    cases h with | cons h1 h2 => simp at e; subst e; exact ⟨_, rfl, h1⟩
  | _ :: _, _, i + 1, _, h, e => by
    cases h with | cons h1 h2 =>
      obtain ⟨v, q1, q2⟩ := DdAll.get' h2 (show _ = some _ by simpa using e)
      exact ⟨v, by simpa using q1, q2⟩
theorem DdAll.append : ∀ {ds es : List PyData} {vs ws : List V}, DdAll H vs ds → DdAll H ws es → DdAll H (vs ++ ws) (ds ++ es)
  | [], _, _, _, h, k => by cases h; exact k
  | _ :: _, _, _, _, h, k => by cases h with | cons h1 h2 => exact .cons h1 (DdAll.append h2 k)
theorem DdAll.take : ∀ {ds : List PyData} {vs : List V} (n : Nat), DdAll H vs ds → DdAll H (vs.take n) (ds.take n)
  | _, _, 0, _ => by simpa using DdAll.nil
  | [], _, n + 1, h => by cases h; simpa using DdAll.nil
  | _ :: _, _, n + 1, h => by cases h with | cons h1 h2 => exact .cons h1 (DdAll.take n h2)
theorem DdAll.drop : ∀ {ds : List PyData} {vs : List V} (n : Nat), DdAll H vs ds → DdAll H (vs.drop n) (ds.drop n)
  | _, _, 0, h => h
  | [], _, n + 1, h => by cases h; simpa using DdAll.nil
  | _ :: _, _, n + 1, h => by cases h with | cons h1 h2 => exact DdAll.drop n h2
theorem DdAll.set : ∀ {ds : List PyData} {vs : List V} (n : Nat) {v : V} {d : PyData}, DdAll H vs ds → Dd H v d → DdAll H (vs.set n v) (ds.set n d)
  | [], _, _, _, _, h, _ => by cases h; simpa using DdAll.nil
  | _ :: _, _, 0, _, _, h, k => by cases h with | cons h1 h2 => exact .cons k h2
  | _ :: _, _, n + 1, _, _, h, k => by cases h with | cons h1 h2 => exact .cons h1 (DdAll.set n h2 k)
theorem DdAll.rev {ds : List PyData} {vs : List V} (h : DdAll H vs ds) : DdAll H vs.reverse ds.reverse := by
  induction ds generalizing vs with
  | nil => cases h; exact .nil
  | cons d ds ih =>
    cases h with
    | cons h1 h2 =>
      rw [List.reverse_cons, List.reverse_cons]
      exact DdAll.append (ih h2) (.cons h1 .nil)
theorem DdAll.ints : ∀ {ns : List Int}, DdAll H (ns.map V.int) (ns.map PyData.int)
  | [] => .nil
  | _ :: _ => .cons (.int _) DdAll.ints
theorem DdAll.ofInts : ∀ {ns : List Int} {vs : List V}, DdAll H vs (ns.map PyData.int) → vs = ns.map V.int
  | [], _, h => by cases h; rfl
  | _ :: _, _, h => by cases h with | cons h1 h2 => cases h1; rw [DdAll.ofInts h2]; rfl
theorem DdAll.ofBls : ∀ {ns : List Bool} {vs : List V}, DdAll H vs (ns.map PyData.bool) → vs = ns.map V.bl
  | [], _, h => by cases h; rfl
  | _ :: _, _, h => by cases h with | cons h1 h2 => cases h1; rw [DdAll.ofBls h2]; rfl
end

/-! ### worlds: H0, what is frozen; H, all -/
abbrev Tab := List (Addr × Str)
structure Wd (T : Tab) (H0 H : Hp) : Prop where
  sub : Sub H0 H
  nt : ∀ b ps, H0 b ≠ some (.tbl ps)
  tabs : LamX.Tabs T H
structure Wx (T : Tab) (H0 H H0' H' : Hp) : Prop where
  w : Wd T H0' H'
  f : Sub H0 H0'
  e : LamX.ExtN H H'
  k : ∀ b, H' b = none → H b = none
  n : ∀ b o, H0' b = some o → H0 b = none → H b = none
section
variable {T : Tab} {H0 H H0' H' H0'' H'' : Hp}
theorem Wx.refl (w : Wd T H0 H) : Wx T H0 H H0 H :=
  ⟨w, (fun _ _ h => h), (fun _ _ h _ => h), (fun _ h => h), (fun b o h k => by rw [h] at k; cases k)⟩
theorem Wx.trans (a : Wx T H0 H H0' H') (b : Wx T H0' H' H0'' H'') : Wx T H0 H H0'' H'' :=
  ⟨b.w, (fun x o h => b.f x o (a.f x o h)), a.e.trans b.e, (fun x h => a.k x (b.k x h)), (fun x o h k => by
    cases q : H0' x with
    | some u => exact a.n x u q k
    | none => exact a.k x (b.n x o h q))⟩
/-- a heap that keeps all that is tracked -/
theorem Wd.ext (w : Wd T H0 H) (e : Sub H H') : Wd T H0 H' := ⟨fun b o h => e b o (w.sub b o h), w.nt, w.tabs.ext e⟩
theorem Wx.ext (w : Wd T H0 H) (e : Sub H H') : Wx T H0 H H0 H' :=
  ⟨w.ext e, (fun _ _ h => h), (fun b o h _ => e b o h), (fun b h => by
    cases q : H b with
    | none => rfl
    | some u => rw [e b u q] at h; cases h), (fun b o h k => by rw [h] at k; cases k)⟩
theorem sub_upd {p : Addr} {o : HO} (h : H p = none) : Sub H (upd H p o) := fun b u e => by
  rw [upd_ne (ne_of_none e h)]
  exact e
/-- a new object, frozen at once -/
theorem Wd.none (w : Wd T H0 H) {p : Addr} (h : H p = none) : H0 p = none := by
  cases q : H0 p with
  | none => rfl
  | some u => rw [w.sub p u q] at h; cases h
theorem Wx.new (w : Wd T H0 H) {p : Addr} {o : HO} (h : H p = none) (ho : ∀ ps, o ≠ .tbl ps) : Wx T H0 H (upd H0 p o) (upd H p o) := by
  have h0 := w.none h
  refine ⟨⟨fun b u e => ?_, fun b ps e => ?_, w.tabs.ext (sub_upd h)⟩, sub_upd h0, LamX.ExtN.of (sub_upd h), fun b e => ?_, fun b u e k => ?_⟩
  · by_cases hb : b = p
    · subst hb; rw [upd_same] at e ⊢; exact e
    · rw [upd_ne hb] at e ⊢; exact w.sub b u e
  · by_cases hb : b = p
    · subst hb; rw [upd_same] at e; cases e; exact ho _ rfl
    · rw [upd_ne hb] at e; exact w.nt b ps e
  · by_cases hb : b = p
    · subst hb; rw [upd_same] at e; cases e
    · rw [upd_ne hb] at e; exact e
  · by_cases hb : b = p
    · subst hb; exact h
    · rw [upd_ne hb] at e; rw [e] at k; cases k
/-- what stands in the heap is frozen -/
theorem Wx.freeze (w : Wd T H0 H) {Hs0 Hs : Hp} (x : Wx T Hs0 Hs H0 H) {p : Addr} {o : HO} (h0 : H0 p = none) (h : H p = some o) (ho : ∀ ps, o ≠ .tbl ps) (hs : Hs p = none) : Wx T Hs0 Hs (upd H0 p o) H := by
  refine ⟨⟨fun b u e => ?_, fun b ps e => ?_, w.tabs⟩, fun b u e => ?_, x.e, x.k, fun b u e k => ?_⟩
  · by_cases hb : b = p
    · subst hb; rw [upd_same] at e; cases e; exact h
    · rw [upd_ne hb] at e; exact w.sub b u e
  · by_cases hb : b = p
    · subst hb; rw [upd_same] at e; cases e; exact ho _ rfl
    · rw [upd_ne hb] at e; exact w.nt b ps e
  · exact sub_upd h0 b u (x.f b u e)
  · by_cases hb : b = p
    · subst hb; exact hs
    · rw [upd_ne hb] at e; exact x.n b u e k
end

/-! ### slots -/
inductive Sl where
  | no
  | dat (d : PyData)
  | own (ds : List PyData)
  | scr (ns : List Int)
/-- the script: known to the object, or the module's own -/
def ScrAt (K : PySem.W.Frag) (H : Hp) (a : Addr) (ns : List Int) : Prop :=
  (∃ o, H a = some (.frz o (.lst (ns.map V.int)))) ∨ ∃ (o : Obj) (its : Array Value) (n : Nat), K.lookup a = some o ∧ o.cls = .type "list" ∧ o.dict = none ∧ o.data = .seq its n ∧ its.size ≤ sizeLine ∧ Vals (ns.map V.int) its.toList
theorem ScrAt.sql {K : PySem.W.Frag} {H : Hp} {a : Addr} {ns : List Int} (h : ScrAt K H a ns) : SqL K H a (ns.map V.int) := by
  rcases h with ⟨o, h⟩ | h
  · exact .inl (.inr ⟨o, h⟩)
  · exact .inr h
inductive SlOk (K : PySem.W.Frag) (Hs H0 H : Hp) : Option V → Sl → Prop
  | no (o : Option V) : SlOk K Hs H0 H o .no
  | dat {v : V} {d : PyData} : Dd H0 v d → SlOk K Hs H0 H (some v) (.dat d)
  | own {a : Addr} {vs : List V} {ds : List PyData} : H a = some (.lst vs) → H0 a = none → Hs a = none → DdAll H0 vs ds → SlOk K Hs H0 H (some (.ref a)) (.own ds)
  | scr {a : Addr} {ns : List Int} : ScrAt K H a ns → SlOk K Hs H0 H (some (.ref a)) (.scr ns)
structure En (K : PySem.W.Frag) (T : Tab) (Hs0 Hs H0 H : Hp) (σ : List (Option V)) (ρ : List Sl) : Prop where
  x : Wx T Hs0 Hs H0 H
  s : ∀ (i : Nat) (p : Sl), ρ[i]? = some p → ∃ o, σ[i]? = some o ∧ SlOk K Hs H0 H o p
  l : ρ.length = σ.length
  d : ∀ (i j : Nat) (a : Addr) (ds es : List PyData), i ≠ j → ρ[i]? = some (.own ds) → ρ[j]? = some (.own es) → σ[i]? = some (some (.ref a)) → σ[j]? ≠ some (some (.ref a))
section
variable {K : PySem.W.Frag} {T : Tab} {Hs0 Hs H0 H H0' H' : Hp} {σ : List (Option V)} {ρ : List Sl}
theorem ScrAt.ext {a : Addr} {xs : List Int} (e : LamX.ExtN H H') (h : ScrAt K H a xs) : ScrAt K H' a xs := by
  rcases h with ⟨o, h⟩ | h
  · exact .inl ⟨o, e _ _ h (fun _ z => by cases z)⟩
  · exact .inr h
theorem SlOk.mono {o : Option V} {p : Sl} (y : Wx T H0 H H0' H') (h : SlOk K Hs H0 H o p) : SlOk K Hs H0' H' o p := by
  cases h with
  | no => exact .no _
  | dat h => exact .dat (h.mono y.f)
  | own h1 h2 h3 h4 =>
    refine .own (y.e _ _ h1 (fun _ z => by cases z)) ?_ h3 (h4.mono y.f)
    rename_i a vs ds
    cases q : H0' a with
    | none => rfl
    | some u => rw [y.n a u q h2] at h1; cases h1
  | scr h => exact .scr (h.ext y.e)
theorem En.mono (e : En K T Hs0 Hs H0 H σ ρ) (y : Wx T H0 H H0' H') : En K T Hs0 Hs H0' H' σ ρ :=
  ⟨e.x.trans y, fun i p h => by
    obtain ⟨o, h1, h2⟩ := e.s i p h
    exact ⟨o, h1, h2.mono y⟩, e.l, e.d⟩
theorem En.w (e : En K T Hs0 Hs H0 H σ ρ) : Wd T H0 H := e.x.w
theorem En.get {i : Nat} {d : PyData} (e : En K T Hs0 Hs H0 H σ ρ) (h : ρ[i]? = some (.dat d)) : ∃ v, σ[i]? = some (some v) ∧ Dd H0 v d := by
  obtain ⟨o, h1, h2⟩ := e.s i _ h
  cases h2 with
  | dat h2 => exact ⟨_, h1, h2⟩
theorem En.getScr {i : Nat} {ns : List Int} (e : En K T Hs0 Hs H0 H σ ρ) (h : ρ[i]? = some (.scr ns)) : ∃ a, σ[i]? = some (some (.ref a)) ∧ ScrAt K H a ns := by
  obtain ⟨o, h1, h2⟩ := e.s i _ h
  cases h2 with
  | scr h2 => exact ⟨_, h1, h2⟩
theorem En.getOwn {i : Nat} {ds : List PyData} (e : En K T Hs0 Hs H0 H σ ρ) (h : ρ[i]? = some (.own ds)) : ∃ a vs, σ[i]? = some (some (.ref a)) ∧ H a = some (.lst vs) ∧ H0 a = none ∧ Hs a = none ∧ DdAll H0 vs ds := by
  obtain ⟨o, h1, h2⟩ := e.s i _ h
  cases h2 with
  | own h2 h3 h4 h5 => exact ⟨_, _, h1, h2, h3, h4, h5⟩
theorem lt_set {α : Type} {l : List α} {i j : Nat} {x p : α} (h : (l.set i x)[j]? = some p) : j < l.length := by
  have := (List.getElem?_eq_some_iff.mp h).1
  simpa using this
/-- a slot takes data -/
theorem En.set {i : Nat} {v : V} {d : PyData} (e : En K T Hs0 Hs H0 H σ ρ) (h : Dd H0 v d) : En K T Hs0 Hs H0 H (σ.set i (some v)) (ρ.set i (.dat d)) := by
  refine ⟨e.x, fun j p hp => ?_, by rw [List.length_set, List.length_set]; exact e.l, fun j k a ds es hjk h1 h2 h3 => ?_⟩
  · by_cases hj : i = j
    · subst hj
      have hl : i < ρ.length := lt_set hp
      rw [List.getElem?_set_self hl] at hp
      cases hp
      exact ⟨some v, List.getElem?_set_self (by rw [← e.l]; exact hl), .dat h⟩
    · rw [List.getElem?_set_ne hj] at hp
      obtain ⟨o, q1, q2⟩ := e.s j p hp
      exact ⟨o, by rw [List.getElem?_set_ne hj]; exact q1, q2⟩
  · have nj : i ≠ j := fun z => by
      subst z
      rw [List.getElem?_set_self (lt_set h1)] at h1; cases h1
    have nk : i ≠ k := fun z => by
      subst z
      rw [List.getElem?_set_self (lt_set h2)] at h2; cases h2
    rw [List.getElem?_set_ne nj] at h1 h3
    rw [List.getElem?_set_ne nk] at h2 ⊢
    exact e.d j k a ds es hjk h1 h2 h3
/-- a slot takes a new list of its own -/
theorem En.setOwn {i : Nat} {a : Addr} {vs : List V} {ds : List PyData} {Hm0 Hm : Hp} (e : En K T Hs0 Hs Hm0 Hm σ ρ) (y : Wx T Hm0 Hm H0 H) (h1 : H a = some (.lst vs)) (h2 : H0 a = none) (h3 : Hm a = none) (h4 : DdAll H0 vs ds) :
    En K T Hs0 Hs H0 H (σ.set i (some (.ref a))) (ρ.set i (.own ds)) := by
  have em := e.mono y
  have hs : Hs a = none := e.x.k a h3
  have nown : ∀ (j : Nat) (es : List PyData), ρ[j]? = some (Sl.own es) → σ[j]? ≠ some (some (V.ref a)) := fun j es hj z => by
    obtain ⟨b, ws, q1, q2, _⟩ := e.getOwn hj
    rw [q1] at z
    cases z
    rw [h3] at q2; cases q2
  refine ⟨em.x, fun j p hp => ?_, by rw [List.length_set, List.length_set]; exact e.l, fun j k b ds' es hjk q1 q2 q3 => ?_⟩
  · by_cases hj : i = j
    · subst hj
      have hl : i < ρ.length := lt_set hp
      rw [List.getElem?_set_self hl] at hp
      cases hp
      exact ⟨_, List.getElem?_set_self (by rw [← e.l]; exact hl), .own h1 h2 hs h4⟩
    · rw [List.getElem?_set_ne hj] at hp
      obtain ⟨o, q1, q2⟩ := em.s j p hp
      exact ⟨o, by rw [List.getElem?_set_ne hj]; exact q1, q2⟩
  · have hlen : ∀ {m : Nat} {p : Sl}, (ρ.set i (Sl.own ds))[m]? = some p → m < σ.length := fun {m p} q => by
      have := lt_set q
      rw [e.l] at this
      exact this
    by_cases hj : i = j
    · subst hj
      rw [List.getElem?_set_self (hlen q1)] at q3
      have e3 := Option.some.inj (Option.some.inj q3)
      cases e3
      rw [List.getElem?_set_ne hjk] at q2 ⊢
      exact nown k es q2
    · rw [List.getElem?_set_ne hj] at q1 q3
      by_cases hk : i = k
      · subst hk
        rw [List.getElem?_set_self (hlen q2)]
        intro z
        have e3 := Option.some.inj (Option.some.inj z)
        cases e3
        exact nown j ds' q1 q3
      · rw [List.getElem?_set_ne hk] at q2 ⊢
        exact e.d j k b ds' es hjk q1 q2 q3
/-- an own list is written -/
theorem En.write {i : Nat} {a : Addr} {vs : List V} {ds es : List PyData} (e : En K T Hs0 Hs H0 H σ ρ) (hi : ρ[i]? = some (.own es)) (ha : σ[i]? = some (some (.ref a))) (h4 : DdAll H0 vs ds) :
    En K T Hs0 Hs H0 (upd H a (.lst vs)) σ (ρ.set i (.own ds)) := by
  obtain ⟨b, ws, q1, q2, q3, q4, q5⟩ := e.getOwn hi
  rw [ha] at q1
  cases q1
  have hl : i < ρ.length := (List.getElem?_eq_some_iff.mp hi).1
  have tb : ∀ b o, H b = some o → b ≠ a → upd H a (.lst vs) b = some o := fun b o h hb => by rw [upd_ne hb]; exact h
  have nt : ∀ {P : Addr} {ps : Array Value}, H P = some (.tbl ps) → P ≠ a := fun {P ps} h z => by subst z; rw [q2] at h; cases h
  refine ⟨⟨⟨fun b o h => ?_, e.w.nt, fun p hp => ?_⟩, e.x.f, fun b o h k => ?_, fun b h => ?_, e.x.n⟩, fun j p hp => ?_, by rw [List.length_set]; exact e.l, fun j k b ds' es' hjk r1 r2 r3 => ?_⟩
  · exact tb b o (e.w.sub b o h) fun z => by subst z; rw [q3] at h; cases h
  · obtain ⟨ps, t1, t2, t3⟩ := e.w.tabs p hp
    refine ⟨ps, by rw [upd_ne (nt t1)]; exact t1, t2, fun pos cv hc => ?_⟩
    obtain ⟨c, r1, r2⟩ := t3 pos cv hc
    exact ⟨c, r1, tb _ _ r2 fun z => by subst z; rw [q2] at r2; cases r2⟩
  · exact tb b o (e.x.e b o h k) fun z => by subst z; rw [q4] at h; cases h
  · by_cases hb : b = a
    · subst hb; rw [upd_same] at h; cases h
    · rw [upd_ne hb] at h; exact e.x.k b h
  · by_cases hj : i = j
    · subst hj
      rw [List.getElem?_set_self hl] at hp
      cases hp
      exact ⟨_, ha, .own upd_same q3 q4 h4⟩
    · rw [List.getElem?_set_ne hj] at hp
      obtain ⟨o, r1, r2⟩ := e.s j p hp
      refine ⟨o, r1, ?_⟩
      cases r2 with
      | no => exact .no _
      | dat h => exact .dat h
      | own h1 h2 h3 h5 =>
        refine .own (tb _ _ h1 fun z => ?_) h2 h3 h5
        rw [z] at r1
        exact e.d j i a _ _ (Ne.symm hj) hp hi r1 ha
      | scr h =>
        refine .scr ?_
        rename_i c ns
        rcases h with ⟨o, h⟩ | h
        · exact .inl ⟨o, tb _ _ h fun z => by subst z; rw [q2] at h; cases h⟩
        · exact .inr h
  · have hlen : ∀ {m : Nat} {p : Sl}, (ρ.set i (Sl.own ds))[m]? = some p → ∃ _ : Unit, (i = m ∧ p = Sl.own ds) ∨ ρ[m]? = some p := fun {m p} q => by
      by_cases hm : i = m
      · subst hm
        rw [List.getElem?_set_self hl] at q
        cases q
        exact ⟨(), .inl ⟨rfl, rfl⟩⟩
      · rw [List.getElem?_set_ne hm] at q
        exact ⟨(), .inr q⟩
    obtain ⟨_, c1⟩ := hlen r1
    obtain ⟨_, c2⟩ := hlen r2
    rcases c1 with ⟨c1, _⟩ | c1 <;> rcases c2 with ⟨c2, _⟩ | c2
    · exact absurd (c1.symm.trans c2) hjk
    · subst c1; exact e.d i k b es es' hjk hi c2 r3
    · subst c2; exact e.d j i b ds' es hjk c1 hi r3
    · exact e.d j k b ds' es' hjk c1 c2 r3
end
end Rw
namespace Rw
open PySem PySem.Spec PyProof.Rows L2

def tD (K : PySem.W.Frag) (T : Tab) (ρ : List Sl) (d : PyData) : TE := fun σ H Q => ∃ Hs0 Hs H0, En K T Hs0 Hs H0 H σ ρ ∧ ∀ v H0' H', Wx T H0 H H0' H' → Dd H0' v d → Q v H'
/-- a new list -/
def tF (K : PySem.W.Frag) (T : Tab) (ρ : List Sl) (ds : List PyData) : TE := fun σ H Q => ∃ Hs0 Hs H0, En K T Hs0 Hs H0 H σ ρ ∧
  ∀ a vs H0' H', Wx T H0 H H0' H' → H' a = some (.lst vs) → H0' a = none → H a = none → DdAll H0' vs ds → Q (.ref a) H'
def tT (K : PySem.W.Frag) (T : Tab) (ρ : List Sl) (b : Bool) : TT := fun σ H Q => ∃ Hs0 Hs H0, En K T Hs0 Hs H0 H σ ρ ∧ ∀ H0' H', Wx T H0 H H0' H' → Q b H'
/-- arguments: data, or the script -/
inductive Ad (K : PySem.W.Frag) (H0 H : Hp) : V → Sl → Prop
  | dat {v : V} {d : PyData} : Dd H0 v d → Ad K H0 H v (.dat d)
  | scr {a : Addr} {ns : List Int} : ScrAt K H a ns → Ad K H0 H (.ref a) (.scr ns)
theorem Ad.mono {K : PySem.W.Frag} {T : Tab} {H0 H H0' H' : Hp} {v : V} {p : Sl} (y : Wx T H0 H H0' H') (h : Ad K H0 H v p) : Ad K H0' H' v p := by
  cases h with
  | dat h => exact .dat (h.mono y.f)
  | scr h => exact .scr (h.ext y.e)
inductive AdAll (K : PySem.W.Frag) (H0 H : Hp) : List V → List Sl → Prop
  | nil : AdAll K H0 H [] []
  | cons {v : V} {vs : List V} {p : Sl} {ps : List Sl} : Ad K H0 H v p → AdAll K H0 H vs ps → AdAll K H0 H (v :: vs) (p :: ps)
theorem AdAll.mono {K : PySem.W.Frag} {T : Tab} {H0 H H0' H' : Hp} (y : Wx T H0 H H0' H') : ∀ {ps : List Sl} {vs : List V}, AdAll K H0 H vs ps → AdAll K H0' H' vs ps
  | _, _, .nil => .nil
  | _, _, .cons h t => .cons (h.mono y) (t.mono y)
def tAr (K : PySem.W.Frag) (T : Tab) (ρ : List Sl) (ps : List Sl) : TA := fun σ H Q => ∃ Hs0 Hs H0, En K T Hs0 Hs H0 H σ ρ ∧ ∀ vs H0' H', Wx T H0 H H0' H' → AdAll K H0' H' vs ps → Q vs H'

def Ev (X : Cx) (T : Tab) (ρ : List Sl) (e : Expr) (d : PyData) : Prop := PE X e (tD X.K T ρ d)
def Ef (X : Cx) (T : Tab) (ρ : List Sl) (e : Expr) (ds : List PyData) : Prop := PE X e (tF X.K T ρ ds)
def Et (X : Cx) (T : Tab) (ρ : List Sl) (e : Expr) (b : Bool) : Prop := PT X e (tT X.K T ρ b)
def Ew (X : Cx) (T : Tab) (ρ : List Sl) (e : Expr) (b : Bool) : Prop := PW X e (tT X.K T ρ b)
def Ea (X : Cx) (T : Tab) (ρ : List Sl) (es : List Expr) (ps : List Sl) : Prop := PA X es (tAr X.K T ρ ps)

theorem pe_imp {X : Cx} {e : Expr} {t t' : TE} (h : PE X e t) (k : ∀ σ H Q, t' σ H Q → t σ H Q) : PE X e t' := ⟨fun pins s σ H Q I q => h.run pins s σ H Q I (k σ H Q q)⟩
theorem pt_imp {X : Cx} {e : Expr} {t t' : TT} (h : PT X e t) (k : ∀ σ H Q, t' σ H Q → t σ H Q) : PT X e t' := ⟨fun pins s σ H Q I q => h.run pins s σ H Q I (k σ H Q q)⟩
theorem pw_imp {X : Cx} {e : Expr} {t t' : TT} (h : PW X e t) (k : ∀ σ H Q, t' σ H Q → t σ H Q) : PW X e t' := ⟨fun wh pins s σ H Q I q => h.run wh pins s σ H Q I (k σ H Q q)⟩
theorem pa_imp {X : Cx} {es : List Expr} {t t' : TA} (h : PA X es t) (k : ∀ σ H Q, t' σ H Q → t σ H Q) : PA X es t' := ⟨fun pos pins s σ H Q I q => h.run pos pins s σ H Q I (k σ H Q q)⟩

section
variable {X : Cx} {T : Tab} {ρ : List Sl} {a b c e : Expr} {pos p p2 : Pos} {d d1 d2 d3 : PyData}

theorem pe_never : PE X e (fun _ _ _ => False) := ⟨fun _ _ _ _ _ _ h => h.elim⟩
theorem pt_never : PT X e (fun _ _ _ => False) := ⟨fun _ _ _ _ _ _ h => h.elim⟩
theorem pw_never : PW X e (fun _ _ _ => False) := ⟨fun _ _ _ _ _ _ _ h => h.elim⟩
theorem op_never {f : Value → Value → Sem Value} : OpR X f (fun _ _ _ _ => False) := fun _ _ _ _ _ _ _ _ _ _ _ _ h => h.elim
theorem Ev.eq (h : Ev X T ρ e d1) (k : d1 = d2) : Ev X T ρ e d2 := k ▸ h
theorem Ef.eq {ds es : List PyData} (h : Ef X T ρ e ds) (k : ds = es) : Ef X T ρ e es := k ▸ h
theorem Et.eq {x y : Bool} (h : Et X T ρ e x) (k : x = y) : Et X T ρ e y := k ▸ h
/-- a new list, frozen -/
theorem Ef.ev {ds : List PyData} (h : Ef X T ρ e ds) : Ev X T ρ e (.list ds) := by
  refine pe_imp h fun σ H Q ⟨Hs0, Hs, H0, en, k⟩ => ⟨Hs0, Hs, H0, en, fun a vs H0' H' y q1 q2 q3 q4 => k _ _ _ (Wx.freeze y.w y q2 q1 (fun _ z => by cases z) q3) (.lst upd_same (q4.mono (sub_upd q2)))⟩
/-! ### names, constants -/
theorem ev_var {x : Str} (i : Nat) (hr : ρ[i]? = some (.dat d) := by rfl) (hN : X.N[i]? = some x := by rfl) (hv : Vis X.env.scope x := by first | exact Or.inl rfl | exact Or.inr (Or.inl rfl) | exact Or.inr (Or.inr rfl))
    (hd : (x == ("__debug__" : Str)) = false := by decide) (hcd : (x == ("__classdict__" : Str)) = false := by decide) : Ev X T ρ (.Name x pos) d :=
  pe_imp (pe_var hN hv hd hcd) fun σ H Q ⟨Hs0, Hs, H0, en, k⟩ => by
    obtain ⟨v, h1, h2⟩ := en.get hr
    exact ⟨v, h1, k v H0 H (Wx.refl en.w) h2⟩
theorem ev_int {i : Int} {j} : Ev X T ρ (.Constant (.int i) j pos) (.int i) := pe_imp pe_int fun σ H Q ⟨_, _, H0, en, k⟩ => k _ H0 H (Wx.refl en.w) (.int i)
theorem ev_bl {i : Bool} {j} : Ev X T ρ (.Constant (.bool i) j pos) (.bool i) := pe_imp pe_bl fun σ H Q ⟨_, _, H0, en, k⟩ => k _ H0 H (Wx.refl en.w) (.bl i)
theorem ev_str {i : Str} {j} : Ev X T ρ (.Constant (.str i) j pos) (.str i) := pe_imp pe_str fun σ H Q ⟨_, _, H0, en, k⟩ => k _ H0 H (Wx.refl en.w) (.str i)
theorem ev_non {j} : Ev X T ρ (.Constant .none j pos) .none := pe_imp pe_non fun σ H Q ⟨_, _, H0, en, k⟩ => k _ H0 H (Wx.refl en.w) .non
/-! ### two in a row -/
theorem two {ta : TE} {σ : L2.St} {H : Hp} {R : V → V → Hp → Prop} (q : tD X.K T ρ d σ H fun v H1 => ta σ H1 fun u H2 => R v u H2) : tD X.K T ρ d σ H fun v H1 => ta σ H1 fun u H2 => R v u H2 := q
/-- reading a, then b, from one place -/
theorem pair {K : PySem.W.Frag} {σ : L2.St} {H H0 Hs0 Hs : Hp} {R : V → V → Hp → Prop} (en : En K T Hs0 Hs H0 H σ ρ)
    (h : ∀ v u H0' H', Wx T H0 H H0' H' → Dd H0' v d1 → Dd H0' u d2 → R v u H') : tD K T ρ d1 σ H fun v H1 => tD K T ρ d2 σ H1 fun u H2 => R v u H2 :=
  ⟨Hs0, Hs, H0, en, fun v H1 H1' y1 q1 => ⟨Hs0, Hs, H1, en.mono y1, fun u H2 H2' y2 q2 => h v u H2 H2' (y1.trans y2) (q1.mono y2.f) q2⟩⟩
theorem ev_op {op : Operator} {r : R2} (ho : OpR X (binaryOp op) r) (ha : Ev X T ρ a d1) (hb : Ev X T ρ b d2)
    (h : ∀ v u H0 H, Wd T H0 H → Dd H0 v d1 → Dd H0 u d2 → ∀ Q : VK, (∀ z H0' H', Wx T H0 H H0' H' → Dd H0' z d → Q z H') → r v u H Q) : Ev X T ρ (.BinOp a op b pos) d :=
  pe_imp (pe_op ho ha hb) fun σ H Q ⟨_, _, H0, en, k⟩ => pair en fun v u H0' H' y q1 q2 => h v u H0' H' y.w q1 q2 Q fun z H0'' H'' y' q => k z _ _ (y.trans y') q
theorem ef_op {op : Operator} {r : R2} {ds : List PyData} (ho : OpR X (binaryOp op) r) (ha : Ev X T ρ a d1) (hb : Ev X T ρ b d2)
    (h : ∀ v u H0 H, Wd T H0 H → Dd H0 v d1 → Dd H0 u d2 → ∀ Q : VK, (∀ a vs H0' H', Wx T H0 H H0' H' → H' a = some (.lst vs) → H0' a = none → H a = none → DdAll H0' vs ds → Q (.ref a) H') → r v u H Q) : Ef X T ρ (.BinOp a op b pos) ds :=
  pe_imp (pe_op ho ha hb) fun σ H Q ⟨_, _, H0, en, k⟩ => pair en fun v u H0' H' y q1 q2 => h v u H0' H' y.w q1 q2 Q fun z vs H0'' H'' y' q3 q4 q5 q6 => k z vs _ _ (y.trans y') q3 q4 (y.k _ q5) q6
section
variable {i j : Int}
theorem ev_I {op : Operator} {C : Int → Int → Prop} {g : Int → Int → Int} (ho : OpR X (binaryOp op) (rI C fun i j => .int (g i j))) (ha : Ev X T ρ a (.int i)) (hb : Ev X T ρ b (.int j)) (hc : C i j) : Ev X T ρ (.BinOp a op b pos) (.int (g i j)) :=
  ev_op ho ha hb fun v u H0 H w q1 q2 Q k => by
    cases q1; cases q2
    exact ⟨i, j, rfl, rfl, hc, k _ _ _ (Wx.refl w) (.int _)⟩
theorem ev_I0 {op : Operator} {g : Int → Int → Int} (ho : OpR X (binaryOp op) (rI0 fun i j => .int (g i j))) (ha : Ev X T ρ a (.int i)) (hb : Ev X T ρ b (.int j)) : Ev X T ρ (.BinOp a op b pos) (.int (g i j)) :=
  ev_op ho ha hb fun v u H0 H w q1 q2 Q k => by
    cases q1; cases q2
    exact ⟨i, j, rfl, rfl, k _ _ _ (Wx.refl w) (.int _)⟩
theorem ev_add (ha : Ev X T ρ a (.int i)) (hb : Ev X T ρ b (.int j)) : Ev X T ρ (.BinOp a .Add b pos) (.int (i + j)) := ev_I0 op_add ha hb
theorem ev_sub (ha : Ev X T ρ a (.int i)) (hb : Ev X T ρ b (.int j)) : Ev X T ρ (.BinOp a .Sub b pos) (.int (i - j)) := ev_I0 op_sub ha hb
/-- factors of together less than 2 ^ 27 bits, or one of at most 64 -/
def MulFits (i j : Int) : Prop := IntMulOk i j
theorem op_mulG : OpR X (binaryOp .Mult) (rI MulFits fun i j => .int (i * j)) := opI fun _ _ _ _ _ _ _ hc q => mul_int q hc
theorem ev_mul (ha : Ev X T ρ a (.int i)) (hb : Ev X T ρ b (.int j)) (hc : MulFits i j) : Ev X T ρ (.BinOp a .Mult b pos) (.int (i * j)) := ev_I op_mulG ha hb hc
theorem ev_mod (ha : Ev X T ρ a (.int i)) (hb : Ev X T ρ b (.int j)) (hc : 0 < j := by decide) : Ev X T ρ (.BinOp a .Mod b pos) (.int (i % j)) := ev_I op_mod ha hb hc
/-- // by a written number -/
theorem ev_fdivS (ha : Ev X T ρ a (.int i)) (hb : Ev X T ρ b (.int j)) (hc : 0 < j ∧ j.natAbs.log2 < 9000) : Ev X T ρ (.BinOp a .FloorDiv b pos) (.int (i / j)) := ev_I op_fdivW ha hb hc
end
theorem ef_cat {ds es : List PyData} (ha : Ev X T ρ a (.list ds)) (hb : Ev X T ρ b (.list es)) (hz : ds.length + es.length ≤ sizeLine) : Ef X T ρ (.BinOp a .Add b pos) (ds ++ es) :=
  ef_op op_cat ha hb fun v u H0 H w q1 q2 Q k => by
    cases q1 with
    | lst h1 h2 =>
      cases q2 with
      | lst h3 h4 =>
        refine ⟨_, _, _, _, rfl, rfl, w.sub _ _ h1, w.sub _ _ h3, by rw [h2.len, h4.len]; exact hz, fun p hp => ?_⟩
        exact k p _ H0 _ (Wx.ext w (sub_upd hp)) upd_same (w.none hp) hp (h2.append h4)
theorem ev_catT {ds es : List PyData} (ha : Ev X T ρ a (.tuple ds)) (hb : Ev X T ρ b (.tuple es)) (hz : ds.length + es.length ≤ sizeLine) : Ev X T ρ (.BinOp a .Add b pos) (.tuple (ds ++ es)) :=
  ev_op op_catA ha hb fun v u H0 H w q1 q2 Q k => by
    cases q1 with
    | tup h1 h2 =>
      cases q2 with
      | tup h3 h4 =>
        have m1 := w.sub _ _ h1
        have m2 := w.sub _ _ h3
        refine ⟨_, _, _, _, rfl, rfl, SqT.of m1, SqT.of m2, by rw [h2.len, h4.len]; exact hz, fun z => ?_, fun _ z => ?_, fun _ _ p hp => ?_⟩
        · subst z
          cases h2
          exact k _ H0 H (Wx.refl w) (.tup h3 h4)
        · subst z
          cases h4
          exact k _ H0 H (Wx.refl w) (.tup h1 (by rw [List.append_nil]; exact h2))
        · exact k _ _ _ (Wx.new w hp (fun _ z => by cases z)) (.tup upd_same ((h2.append h4).mono (sub_upd (w.none hp))))
/-! ### one-place -/
theorem ev_un1 {op : UnaryOp} {r : V → Hp → VK → Prop} (ho : UnR X (unaryOp op) r) (ha : Ev X T ρ a d1)
    (h : ∀ v H0 H, Wd T H0 H → Dd H0 v d1 → ∀ Q : VK, (∀ z H0' H', Wx T H0 H H0' H' → Dd H0' z d → Q z H') → r v H Q) : Ev X T ρ (.UnaryOp op a pos) d :=
  pe_imp (pe_un ho ha) fun σ H Q ⟨Hs0, Hs, H0, en, k⟩ => ⟨Hs0, Hs, H0, en, fun v H0' H' y q => h v H0' H' y.w q Q fun z H0'' H'' y' q' => k z _ _ (y.trans y') q'⟩
theorem ev_neg {i : Int} (ha : Ev X T ρ a (.int i)) : Ev X T ρ (.UnaryOp .USub a pos) (.int (-i)) :=
  ev_un1 un_neg ha fun v H0 H w q Q k => by
    cases q
    exact ⟨i, rfl, k _ _ _ (Wx.refl w) (.int _)⟩
theorem ev_not {x : Bool} (ha : Ev X T ρ a (.bool x)) : Ev X T ρ (.UnaryOp .Not a pos) (.bool (!x)) :=
  pe_imp (pe_not ha) fun σ H Q ⟨Hs0, Hs, H0, en, k⟩ => ⟨Hs0, Hs, H0, en, fun v H0' H' y q => by
    cases q
    exact ⟨x, rfl, k _ _ _ y (.bl _)⟩⟩
/-! ### comparisons -/
theorem ev_cmp {op : CmpOp} {r : R2} (ho : OpR X (compareOp op) r) (ha : Ev X T ρ a d1) (hb : Ev X T ρ b d2) (hm : behindInMarks op b = false)
    (h : ∀ v u H0 H, Wd T H0 H → Dd H0 v d1 → Dd H0 u d2 → ∀ Q : VK, (∀ z H0' H', Wx T H0 H H0' H' → Dd H0' z d → Q z H') → r v u H Q) : Ev X T ρ (.Compare a [op] [b] pos) d :=
  pe_imp (pe_cmpR ho ha hb hm) fun σ H Q ⟨_, _, H0, en, k⟩ => pair en fun v u H0' H' y q1 q2 => h v u H0' H' y.w q1 q2 Q fun z H0'' H'' y' q => k z _ _ (y.trans y') q
theorem et_cmp {op : CmpOp} {r : R2} {x : Bool} (ho : OpR X (compareOp op) r) (ha : Ev X T ρ a d1) (hb : Ev X T ρ b d2) (hm : behindInMarks op b = false)
    (h : ∀ v u H0 H, Wd T H0 H → Dd H0 v d1 → Dd H0 u d2 → ∀ Q : VK, Q (.bl x) H → r v u H Q) : Et X T ρ (.Compare a [op] [b] pos) x :=
  pt_imp (pt_cmpR ho ha hb hm) fun σ H Q ⟨_, _, H0, en, k⟩ => pair en fun v u H0' H' y q1 q2 => h v u H0' H' y.w q1 q2 _ ⟨x, rfl, k _ _ y⟩
/-- what a comparison's rule asks and gives: data in, a truth out, nothing made -/
def CmpD (X : Cx) (T : Tab) (op : CmpOp) (d1 d2 : PyData) (x : Bool) : Prop :=
  ∃ r : R2, OpR X (compareOp op) r ∧ ∀ v u H0 H, Wd T H0 H → Dd H0 v d1 → Dd H0 u d2 → ∀ Q : VK, Q (.bl x) H → r v u H Q
theorem CmpD.ev {op : CmpOp} {x : Bool} (c : CmpD X T op d1 d2 x) (ha : Ev X T ρ a d1) (hb : Ev X T ρ b d2) (hm : behindInMarks op b = false := by exact nomark _) : Ev X T ρ (.Compare a [op] [b] pos) (.bool x) := by
  obtain ⟨r, ho, h⟩ := c
  exact ev_cmp ho ha hb hm fun v u H0 H w q1 q2 Q k => h v u H0 H w q1 q2 Q (k _ _ _ (Wx.refl w) (.bl x))
theorem CmpD.et {op : CmpOp} {x : Bool} (c : CmpD X T op d1 d2 x) (ha : Ev X T ρ a d1) (hb : Ev X T ρ b d2) (hm : behindInMarks op b = false := by exact nomark _) : Et X T ρ (.Compare a [op] [b] pos) x := by
  obtain ⟨r, ho, h⟩ := c
  exact et_cmp ho ha hb hm fun v u H0 H w q1 q2 Q k => h v u H0 H w q1 q2 Q k
/-- a < b < c -/
theorem CmpD.chain {op op' : CmpOp} {x y : Bool} (k1 : CmpD X T op d1 d2 x) (k2 : x = true → CmpD X T op' d2 d3 y) (k3 : x = false → y = false) (ha : Ev X T ρ a d1) (hb : Ev X T ρ b d2) (hc : Ev X T ρ c d3)
    (hm : lastMarks [op, op'] [b, c] = false := by with_unfolding_all rfl) : Ev X T ρ (.Compare a [op, op'] [b, c] pos) (.bool y) := by
  obtain ⟨r, ho, h⟩ := k1
  cases x with
  | true =>
    obtain ⟨r', ho', h'⟩ := k2 rfl
    exact pe_imp (pe_chain ho ho' ha hb hc hm) fun σ H Q ⟨Hs0, Hs, H0, en, k⟩ => pair en fun v u H0' H' y1 q1 q2 => h v u H0' H' y1.w q1 q2 _ ⟨true, rfl, iteT ⟨Hs0, Hs, H0', en.mono y1, fun w H0'' H'' y2 q3 =>
      h' u w _ _ y2.w (q2.mono y2.f) q3 _ (k _ _ _ (y1.trans y2) (.bl _))⟩⟩
  | false =>
    rw [k3 rfl]
    exact pe_imp (pe_chain ho (op_never (f := compareOp op')) ha hb hc hm) fun σ H Q ⟨Hs0, Hs, H0, en, k⟩ => pair en fun v u H0' H' y1 q1 q2 => h v u H0' H' y1.w q1 q2 _ ⟨false, rfl, iteF (k _ _ _ y1 (.bl _))⟩
theorem CmpD.chainT {op op' : CmpOp} {x y : Bool} (k1 : CmpD X T op d1 d2 x) (k2 : x = true → CmpD X T op' d2 d3 y) (k3 : x = false → y = false) (ha : Ev X T ρ a d1) (hb : Ev X T ρ b d2) (hc : Ev X T ρ c d3)
    (hm : lastMarks [op, op'] [b, c] = false := by with_unfolding_all rfl) : Et X T ρ (.Compare a [op, op'] [b, c] pos) y := by
  obtain ⟨r, ho, h⟩ := k1
  cases x with
  | true =>
    obtain ⟨r', ho', h'⟩ := k2 rfl
    exact pt_imp (pt_chain ho ho' ha hb hc hm) fun σ H Q ⟨Hs0, Hs, H0, en, k⟩ => pair en fun v u H0' H' y1 q1 q2 => h v u H0' H' y1.w q1 q2 _ ⟨true, rfl, iteT ⟨Hs0, Hs, H0', en.mono y1, fun w H0'' H'' y2 q3 =>
      h' u w _ _ y2.w (q2.mono y2.f) q3 _ ⟨y, rfl, k _ _ (y1.trans y2)⟩⟩⟩
  | false =>
    rw [k3 rfl]
    exact pt_imp (pt_chain ho (op_never (f := compareOp op')) ha hb hc hm) fun σ H Q ⟨Hs0, Hs, H0, en, k⟩ => pair en fun v u H0' H' y1 q1 q2 => h v u H0' H' y1.w q1 q2 _ ⟨false, rfl, iteF ⟨false, rfl, k _ _ y1⟩⟩
section
variable {i j : Int} {x y : Bool}
theorem cmp_lt : CmpD X T .Lt (.int i) (.int j) (decide (i < j)) := ⟨_, op_lt, fun v u H0 H w q1 q2 Q k => by cases q1; cases q2; exact ⟨i, j, rfl, rfl, k⟩⟩
theorem cmp_le : CmpD X T .LtE (.int i) (.int j) (decide (i ≤ j)) := ⟨_, op_le, fun v u H0 H w q1 q2 Q k => by cases q1; cases q2; exact ⟨i, j, rfl, rfl, k⟩⟩
theorem cmp_gt : CmpD X T .Gt (.int i) (.int j) (decide (j < i)) := ⟨_, op_gt, fun v u H0 H w q1 q2 Q k => by cases q1; cases q2; exact ⟨i, j, rfl, rfl, k⟩⟩
theorem cmp_ge : CmpD X T .GtE (.int i) (.int j) (decide (j ≤ i)) := ⟨_, op_ge, fun v u H0 H w q1 q2 Q k => by cases q1; cases q2; exact ⟨i, j, rfl, rfl, k⟩⟩
theorem cmp_eq : CmpD X T .Eq (.int i) (.int j) (decide (i = j)) := ⟨_, op_eq, fun v u H0 H w q1 q2 Q k => by
  cases q1; cases q2
  refine ⟨rfl, ?_⟩
  have e : decide (V.int i = V.int j) = decide (i = j) := by
    by_cases h : i = j
    · subst h; simp
    · rw [decide_eq_false h, decide_eq_false (fun z => h (V.int.inj z))]
  rw [e]; exact k⟩
theorem cmp_ne : CmpD X T .NotEq (.int i) (.int j) (!decide (i = j)) := ⟨_, op_ne, fun v u H0 H w q1 q2 Q k => by
  cases q1; cases q2
  refine ⟨rfl, ?_⟩
  have e : decide (V.int i = V.int j) = decide (i = j) := by
    by_cases h : i = j
    · subst h; simp
    · rw [decide_eq_false h, decide_eq_false (fun z => h (V.int.inj z))]
  rw [e]; exact k⟩
theorem cmp_eqB : CmpD X T .Eq (.bool x) (.bool y) (decide (x = y)) := ⟨_, op_eq, fun v u H0 H w q1 q2 Q k => by
  cases q1; cases q2
  refine ⟨rfl, ?_⟩
  have e : decide (V.bl x = V.bl y) = decide (x = y) := by cases x <;> cases y <;> rfl
  rw [e]; exact k⟩
theorem cmp_neB : CmpD X T .NotEq (.bool x) (.bool y) (!decide (x = y)) := ⟨_, op_ne, fun v u H0 H w q1 q2 Q k => by
  cases q1; cases q2
  refine ⟨rfl, ?_⟩
  have e : decide (V.bl x = V.bl y) = decide (x = y) := by cases x <;> cases y <;> rfl
  rw [e]; exact k⟩
theorem cmp_isB : CmpD X T .Is (.bool x) (.bool y) (decide (x = y)) := ⟨_, op_is_bl, fun v u H0 H w q1 q2 Q k => by cases q1; cases q2; exact ⟨x, y, rfl, rfl, k⟩⟩
theorem cmp_isnotB : CmpD X T .IsNot (.bool x) (.bool y) (!decide (x = y)) := ⟨_, op_isnot_bl, fun v u H0 H w q1 q2 Q k => by cases q1; cases q2; exact ⟨x, y, rfl, rfl, k⟩⟩
def isNone : PyData → Bool
  | .none => true
  | _ => false
theorem Dd.isNone {H : Hp} {v : V} {d : PyData} (h : Dd H v d) : decide (v = .non) = Rw.isNone d := by cases h <;> rfl
theorem cmp_isN : CmpD X T .Is d .none (isNone d) := ⟨_, op_isN, fun v u H0 H w q1 q2 Q k => by
  cases q2
  exact ⟨rfl, by rw [q1.isNone]; exact k⟩⟩
theorem cmp_isnotN : CmpD X T .IsNot d .none (!isNone d) := ⟨_, op_notN, fun v u H0 H w q1 q2 Q k => by
  cases q2
  exact ⟨rfl, by rw [q1.isNone]; exact k⟩⟩
/-- == of data -/
theorem cmp_eqD (hu : X.A.units + 64 < cLine) (h1 : SeqAt.shaped d1 = true) (h2 : SeqAt.shaped d2 = true) : CmpD X T .Eq d1 d2 (PyData.eqv d1 d2) := ⟨_, op_eqD hu, fun v u H0 H w q1 q2 Q k => ⟨d1, d2, (q1.mono w.sub).dp, (q2.mono w.sub).dp, h1, h2, k⟩⟩
theorem cmp_neD (hu : X.A.units + 64 < cLine) (h1 : SeqAt.shaped d1 = true) (h2 : SeqAt.shaped d2 = true) : CmpD X T .NotEq d1 d2 (!PyData.eqv d1 d2) := ⟨_, op_neD hu, fun v u H0 H w q1 q2 Q k => ⟨d1, d2, (q1.mono w.sub).dp, (q2.mono w.sub).dp, h1, h2, k⟩⟩
end
/-! ### and, or -/
variable {x y : Bool} {rest : List Expr}
theorem ev_one {op} (h : Ev X T ρ a d) : Ev X T ρ (.BoolOp op [a] pos) d := pe_one h
theorem ev_and (ha : Ev X T ρ a (.bool x)) (hb : x = true → Ev X T ρ (.BoolOp .And (b :: rest) pos) (.bool y)) (k0 : x = false → y = false := by intro h; first | exact h | (rw [h]; rfl) | (subst h; rfl) | simp [h]) : Ev X T ρ (.BoolOp .And (a :: b :: rest) pos) (.bool y) := by
  cases x with
  | true =>
    exact pe_imp (pe_and ha (hb rfl)) fun σ H Q ⟨Hs0, Hs, H0, en, k⟩ => ⟨Hs0, Hs, H0, en, fun v H0' H' y1 q => by
      cases q
      exact ⟨true, rfl, iteT ⟨Hs0, Hs, H0', en.mono y1, fun u H0'' H'' y2 q2 => k u _ _ (y1.trans y2) q2⟩⟩⟩
  | false =>
    rw [k0 rfl]
    exact pe_imp (pe_and ha pe_never) fun σ H Q ⟨Hs0, Hs, H0, en, k⟩ => ⟨Hs0, Hs, H0, en, fun v H0' H' y1 q => by
      cases q
      exact ⟨false, rfl, iteF (k _ _ _ y1 (.bl _))⟩⟩
theorem ev_or (ha : Ev X T ρ a (.bool x)) (hb : x = false → Ev X T ρ (.BoolOp .Or (b :: rest) pos) (.bool y)) (k0 : x = true → y = true := by intro h; first | exact h | (rw [h]; rfl) | (subst h; rfl) | simp [h]) : Ev X T ρ (.BoolOp .Or (a :: b :: rest) pos) (.bool y) := by
  cases x with
  | false =>
    exact pe_imp (pe_or ha (hb rfl)) fun σ H Q ⟨Hs0, Hs, H0, en, k⟩ => ⟨Hs0, Hs, H0, en, fun v H0' H' y1 q => by
      cases q
      exact ⟨false, rfl, iteF ⟨Hs0, Hs, H0', en.mono y1, fun u H0'' H'' y2 q2 => k u _ _ (y1.trans y2) q2⟩⟩⟩
  | true =>
    rw [k0 rfl]
    exact pe_imp (pe_or ha pe_never) fun σ H Q ⟨Hs0, Hs, H0, en, k⟩ => ⟨Hs0, Hs, H0, en, fun v H0' H' y1 q => by
      cases q
      exact ⟨true, rfl, iteT (k _ _ _ y1 (.bl _))⟩⟩
theorem ev_andB {z : Bool} (ha : Ev X T ρ a (.bool x)) (hb : x = true → Ev X T ρ (.BoolOp .And (b :: rest) pos) (.bool z)) : Ev X T ρ (.BoolOp .And (a :: b :: rest) pos) (.bool (x && z)) :=
  ev_and ha (fun h => by subst h; exact hb rfl) (fun h => by rw [h]; rfl)
theorem ev_orB {z : Bool} (ha : Ev X T ρ a (.bool x)) (hb : x = false → Ev X T ρ (.BoolOp .Or (b :: rest) pos) (.bool z)) : Ev X T ρ (.BoolOp .Or (a :: b :: rest) pos) (.bool (x || z)) :=
  ev_or ha (fun h => by subst h; exact hb rfl) (fun h => by rw [h]; rfl)
/-! ### tests -/
theorem Ew.et (h : Ew X T ρ e x) : Et X T ρ e x := PW.pt h
theorem ew_and1 (h : Et X T ρ a x) : Ew X T ρ (.BoolOp .And [a] pos) x := pw_and1 h
theorem ew_or1 (h : Et X T ρ a x) : Ew X T ρ (.BoolOp .Or [a] pos) x := pw_or1 h
theorem ew_and (ha : Et X T ρ a x) (hb : x = true → Ew X T ρ (.BoolOp .And (b :: rest) pos) y) (k0 : x = false → y = false := by intro h; first | exact h | (rw [h]; rfl) | (subst h; rfl) | simp [h]) : Ew X T ρ (.BoolOp .And (a :: b :: rest) pos) y := by
  cases x with
  | true => exact pw_imp (pw_and ha (hb rfl)) fun σ H Q ⟨Hs0, Hs, H0, en, k⟩ => ⟨Hs0, Hs, H0, en, fun H0' H' y1 => iteT ⟨Hs0, Hs, H0', en.mono y1, fun H0'' H'' y2 => k _ _ (y1.trans y2)⟩⟩
  | false =>
    rw [k0 rfl]
    exact pw_imp (pw_and ha pw_never) fun σ H Q ⟨Hs0, Hs, H0, en, k⟩ => ⟨Hs0, Hs, H0, en, fun H0' H' y1 => iteF (k _ _ y1)⟩
theorem ew_or (ha : Et X T ρ a x) (hb : x = false → Ew X T ρ (.BoolOp .Or (b :: rest) pos) y) (k0 : x = true → y = true := by intro h; first | exact h | (rw [h]; rfl) | (subst h; rfl) | simp [h]) : Ew X T ρ (.BoolOp .Or (a :: b :: rest) pos) y := by
  cases x with
  | false => exact pw_imp (pw_or ha (hb rfl)) fun σ H Q ⟨Hs0, Hs, H0, en, k⟩ => ⟨Hs0, Hs, H0, en, fun H0' H' y1 => iteF ⟨Hs0, Hs, H0', en.mono y1, fun H0'' H'' y2 => k _ _ (y1.trans y2)⟩⟩
  | true =>
    rw [k0 rfl]
    exact pw_imp (pw_or ha pw_never) fun σ H Q ⟨Hs0, Hs, H0, en, k⟩ => ⟨Hs0, Hs, H0, en, fun H0' H' y1 => iteT (k _ _ y1)⟩
theorem ew_andB {z : Bool} (ha : Et X T ρ a x) (hb : x = true → Ew X T ρ (.BoolOp .And (b :: rest) pos) z) : Ew X T ρ (.BoolOp .And (a :: b :: rest) pos) (x && z) :=
  ew_and ha (fun h => by subst h; exact hb rfl) (fun h => by rw [h]; rfl)
theorem ew_orB {z : Bool} (ha : Et X T ρ a x) (hb : x = false → Ew X T ρ (.BoolOp .Or (b :: rest) pos) z) : Ew X T ρ (.BoolOp .Or (a :: b :: rest) pos) (x || z) :=
  ew_or ha (fun h => by subst h; exact hb rfl) (fun h => by rw [h]; rfl)
theorem et_not (ha : Et X T ρ a x) : Et X T ρ (.UnaryOp .Not a pos) (!x) :=
  pt_imp (pt_not ha) fun σ H Q ⟨Hs0, Hs, H0, en, k⟩ => ⟨Hs0, Hs, H0, en, fun H0' H' y1 => k _ _ y1⟩
/-- a True or False, as a test -/
theorem Ev.et (ha : Ev X T ρ e (.bool x)) (he : ∀ whole, isTrue e X.env whole = (do let v ← whole; standAt e.pos; holding [v] (truthy v)) := by intro _; rfl) : Et X T ρ e x :=
  pt_imp (pt_val ha he) fun σ H Q ⟨Hs0, Hs, H0, en, k⟩ => ⟨Hs0, Hs, H0, en, fun v H0' H' y1 q => by
    cases q
    exact ⟨x, rfl, k _ _ y1⟩⟩
/-- a list or tuple as a test -/
def truth : PyData → Bool
  | .list ds => !ds.isEmpty
  | .tuple ds => !ds.isEmpty
  | .bool b => b
  | .int i => i != 0
  | _ => false
theorem et_seq {ds : List PyData} (hd : d = .list ds ∨ d = .tuple ds) (ha : Ev X T ρ e d) (he : ∀ whole, isTrue e X.env whole = (do let v ← whole; standAt e.pos; holding [v] (truthy v)) := by intro _; rfl) : Et X T ρ e (!ds.isEmpty) :=
  pt_imp (pt_truth ha he) fun σ H Q ⟨Hs0, Hs, H0, en, k⟩ => ⟨Hs0, Hs, H0, en, fun v H0' H' y1 q => by
    have em : ∀ {vs : List V}, DdAll H0' vs ds → vs.isEmpty = ds.isEmpty := fun {vs} h => by cases h <;> rfl
    rcases hd with hd | hd
    · subst hd
      cases q with
      | lst h1 h2 => exact ⟨_, .inl ⟨_, SqL.of (y1.w.sub _ _ h1), by rw [em h2]⟩, k _ _ y1⟩
    · subst hd
      cases q with
      | tup h1 h2 => exact ⟨_, .inr (.inl ⟨_, SqT.of (y1.w.sub _ _ h1), by rw [em h2]⟩), k _ _ y1⟩⟩
end
end Rw
namespace PySem
open PySem
theorem rw_newB1 {v : Value} {o : Obj} {H : Heap → Prop} (B : Begins v o H) :
    Meets (Builtin.«enumerate.__new__» ⟨[.type "enumerate", v], []⟩) (fun _ R s => H s.heap ∧
      R (.ok (.ret (.ref (s.heap.push o).objs.size))) { s with heap := (s.heap.push o).push { cls := .type "enumerate", data := .fields #[.none, .bool false, .ref s.heap.objs.size, rawInt 0, .none, .none] } }) :=
  .of_wp fun prog w A R s h => by
    obtain ⟨hp, g, d, tk, os⟩ := s; obtain ⟨h1, h⟩ := h
    have hsub := sub_enumerate
    have q1 : ∀ {A' : Around} {E : Value → Shared → Prop} {Q : Value → Shared → Prop}, Q (.ref hp.objs.size) ⟨hp.push o, g, d, tk, os⟩ → wpAny (model prog w) A' (pyIter v) Q E ⟨hp, g, d, tk, os⟩ :=
      fun q => B.iter prog w _ _ ⟨hp, g, d, tk, os⟩ _ h1 q
    wp_walk using q1
    refine wpAny_stack_any fun st => wpAny_pure ?_
    split
    · rename_i c _ _ _ _ _
      cases (c == Value.type "enumerate")
      · wp_walk using q1
        exact ⟨_, rfl, h⟩
      · wp_walk using q1
        exact ⟨_, rfl, h⟩
    · wp_walk using q1
      exact ⟨_, rfl, h⟩
section
variable {prog : Program} {w : World} {A : Around} {E : Value → Shared → Prop} {s : Shared}
theorem rw_enumB1 {v : Value} {o : Obj} {H : Heap → Prop} {Q : Value → Shared → Prop} (B : Begins v o H) (h1 : H s.heap)
    (h : ∀ h', IsEnum h' (s.heap.objs.size + 1) s.heap.objs.size 0 .none → h'.get? s.heap.objs.size = some o → h'.objs.size = s.heap.objs.size + 2 →
      (∀ b o, s.heap.get? b = some o → h'.get? b = some o) → Q (.ref (s.heap.objs.size + 1)) { s with heap := h' }) :
    wpAny (model prog w) A (call (.type "enumerate") [v]) Q E s := by
  refine callType_new F.called_enumerate (by decide) (F.typeCall_enumerate_1 _) (F.newCall_enumerate_1 _) (fun obj => F.args_object_init_2 obj _) F.entry_enumerate_new
    (rw_newB1 B) ⟨h1, ?_⟩
  have hz : (s.heap.push o).objs.size = s.heap.objs.size + 1 := Heap.size_push ..
  show _ ∧ _
  rw [hz]
  have he : IsEnum ((s.heap.push o).push { cls := .type "enumerate", data := .fields #[.none, .bool false, .ref s.heap.objs.size, rawInt 0, .none, .none] }) (s.heap.objs.size + 1) s.heap.objs.size 0 .none := by
    have := Heap.get?_push_size (s.heap.push o) (o := { cls := .type "enumerate", data := .fields #[.none, .bool false, .ref s.heap.objs.size, rawInt 0, .none, .none] }) rfl
    rw [hz] at this; exact this
  refine ⟨⟨_, he, rfl⟩, h _ he (Heap.get?_push_of_some _ (Heap.get?_push_size _ B.free)) (by rw [Heap.size_push, hz]) fun b o x => Heap.get?_push_of_some _ (Heap.get?_push_of_some _ x)⟩
end
end PySem
namespace Rw
open PySem PySem.Spec PyProof.Rows L2
/-- a list (true), a tuple (false) -/
def SqK (K : PySem.W.Frag) (H : Hp) (k : Bool) (a : Addr) (xs : List V) : Prop := match k with | true => SqL K H a xs | false => SqT K H a xs
def ItK (h : Heap) (k : Bool) (it a : Addr) (i : Nat) : Prop := match k with | true => h.IsListIter it a i | false => h.IsTupleIter it a i
def IsK (h : Heap) (k : Bool) (a : Addr) (its : Array Value) : Prop := match k with | true => h.IsList a its | false => h.IsTuple a its
def objK (k : Bool) (a : Addr) : Obj := match k with | true => { cls := .type "list_iterator", data := .fields #[.ref a, .int 0 0] } | false => { cls := .type "tuple_iterator", data := .fields #[.ref a, .int 0 0] }
theorem beginsK (k : Bool) (a : Addr) (its : Array Value) : Begins (.ref a) (objK k a) fun h => IsK h k a its := by
  cases k with
  | true => exact begins_list a its
  | false => exact begins_tuple a its
theorem ItK.start {h : Heap} {k : Bool} {it a : Addr} (e : h.get? it = some (objK k a)) : ItK h k it a 0 := by
  cases k with
  | true => exact ⟨_, e, rfl, rfl⟩
  | false => exact ⟨_, e, rfl, rfl⟩
theorem ItK.get {h : Heap} {k : Bool} {it a : Addr} {i : Nat} (e : ItK h k it a i) : ∃ o, h.get? it = some o ∧ ∀ v, o.data ≠ .cell v := by
  cases k with
  | true => obtain ⟨o, e1, _, d⟩ := e; exact ⟨o, e1, fun v q => by rw [d] at q; cases q⟩
  | false => obtain ⟨o, e1, _, d⟩ := e; exact ⟨o, e1, fun v q => by rw [d] at q; cases q⟩
theorem ItK.lt {h : Heap} {k : Bool} {it a : Addr} {i : Nat} (e : ItK h k it a i) : it < h.objs.size := by
  obtain ⟨o, e, _⟩ := e.get
  exact Heap.lt_size e
theorem ItK.at {h h' : Heap} {k : Bool} {it a : Addr} {i : Nat} (e : ItK h k it a i) (q : ∀ o, h.get? it = some o → h'.get? it = some o) : ItK h' k it a i := by
  cases k with
  | true => exact Heap.IsListIter.at e q
  | false => exact Heap.IsTupleIter.at e q
section
variable {X : Cx} {pins : List (Addr × Obj)} {σ : L2.St} {H : Hp} {s : Shared}
theorem SqK.got {k : Bool} {a : Addr} {xs : List V} (I : Inv X pins σ H s) (h : SqK X.K H k a xs) : ∃ its : List Value, Vals xs its ∧ IsK s.heap k a its.toArray ∧ a < s.heap.objs.size := by
  cases k with
  | true =>
    obtain ⟨its, rv, p, _⟩ := I.list h
    exact ⟨its, rv, p.isList, p.lt⟩
  | false =>
    obtain ⟨its, rv, p, _⟩ := I.tuple h
    obtain ⟨o, ho, _⟩ := id p
    exact ⟨its, rv, p, Heap.lt_size ho⟩
theorem SqK.inj {k : Bool} {a : Addr} {xs ys : List V} (I : Inv X pins σ H s) (h : SqK X.K H k a xs) (h' : SqK X.K H k a ys) : xs = ys := by
  cases k with
  | true => exact I.list_inj h h'
  | false => exact I.tuple_inj h h'
end
theorem drawsK {prog : Program} {w : World} {A : Around} (hh : A.handled = none) (k : Bool) (it a : Addr) (hne : a ≠ it) (its : Array Value) :
    Draws prog w A it [it, a] its.size (fun i v => its[i]? = some v) (fun i h => ItK h k it a i ∧ IsK h k a its) := by
  cases k with
  | true => exact Draws.list hh it a hne its
  | false => exact Draws.tuple hh it a hne its

/-! ### zip -/
def ItzM (K : PySem.W.Frag) (k1 k2 : Bool) (a b : Addr) : It :=
  ⟨fun i H => ∃ (xs ys : List V) (x y : V), SqK K H k1 a xs ∧ SqK K H k2 b ys ∧ xs[i]? = some x ∧ ys[i]? = some y,
    fun i H v H' => ∃ T x y, v = .ref T ∧ H T = none ∧ H' = upd H T (.tup [x, y]) ∧ (∀ xs, SqK K H k1 a xs → xs[i]? = some x) ∧ ∀ ys, SqK K H k2 b ys → ys[i]? = some y,
    fun i H => ∃ xs ys : List V, SqK K H k1 a xs ∧ SqK K H k2 b ys ∧ i = min xs.length ys.length⟩
theorem sepM {z TI TO i1 i2 a b : Addr} (D : ZipApart z TI TO i1 i2 a b) : ZipSep2 z TI TO i1 i2 [i1, a] [i2, b] where
  TIz := D.TIz
  TOz := D.TOz
  TITO := D.TITO
  TIi1 := D.TIi1
  mem1 := by simp
  zf1 := by simp only [List.mem_cons, List.not_mem_nil, or_false, not_or]; exact ⟨Ne.symm D.i1z, Ne.symm D.l1z⟩
  Tf1 := by simp only [List.mem_cons, List.not_mem_nil, or_false, not_or]; exact ⟨D.TOi1, Ne.symm D.l1TO⟩
  TIi2 := D.TIi2
  mem2 := by simp
  zf2 := by simp only [List.mem_cons, List.not_mem_nil, or_false, not_or]; exact ⟨Ne.symm D.i2z, Ne.symm D.l2z⟩
  Tf2 := by simp only [List.mem_cons, List.not_mem_nil, or_false, not_or]; exact ⟨D.TOi2, Ne.symm D.l2TO⟩
  sep1_2 := by simp only [List.mem_cons, List.not_mem_nil, or_false, not_or]; exact ⟨D.i12, Ne.symm D.l2i1⟩
  sep2_1 := by simp only [List.mem_cons, List.not_mem_nil, or_false, not_or]; exact ⟨Ne.symm D.i12, Ne.symm D.l1i2⟩
theorem turn_zipM {P : Program} {w : World} {K : PySem.W.Frag} {elts : List Expr} {kk : Nat} {tpos : Pos} {a b z TI TO i1 i2 : Addr} (k1 k2 : Bool) (D : ZipApart z TI TO i1 i2 a b) :
    Turn P w K (.Tuple elts kk tpos) (ItzM K k1 k2 a b) [z, TI, TO, i1, i2] z (fun i h => IsZip h z TI TO .none ∧ IsTupOf2 h TI (.ref i1) (.ref i2) ∧ (∃ x y, IsTupOf2 h TO x y) ∧ ItK h k1 i1 a i ∧ ItK h k2 i2 b i) where
  mem := by simp
  obj := fun i h st c hc => by
    obtain ⟨hz, hTI, ⟨x, y, hTO⟩, g1, g2⟩ := st
    have e' : c = z ∨ c = TI ∨ c = TO ∨ c = i1 ∨ c = i2 := by simpa using hc
    rcases e' with q | q | q | q | q
    · rw [q]; exact ⟨_, hz, fun v q => nomatch q⟩
    · rw [q]; exact ⟨_, hTI, fun v q => nomatch q⟩
    · rw [q]; exact ⟨_, hTO, fun v q => nomatch q⟩
    · rw [q]; exact g1.get
    · rw [q]; exact g2.get
  keep := fun i h h' st k => by
    obtain ⟨hz, hTI, ⟨x, y, hTO⟩, h1, h2⟩ := st
    exact ⟨k z (by simp) _ hz, k TI (by simp) _ hTI, ⟨x, y, k TO (by simp) _ hTO⟩, h1.at fun o q => k i1 (by simp) o q, h2.at fun o q => k i2 (by simp) o q⟩
  item := by
    intro X hP hw hK hc i pins s σ H E I hf st hg
    subst hP hw hK
    obtain ⟨hz, hTI, ⟨x0, y0, hTO⟩, h1, h2⟩ := st
    obtain ⟨xs, ys, x, y, hqx, hqy, hx, hy⟩ := hg
    obtain ⟨its, rv, p, _⟩ := hqx.got I
    obtain ⟨its2, rv2, p2, _⟩ := hqy.got I
    have hzl : z < s.heap.objs.size := Heap.lt_size hz
    have hlt1 : i < its.toArray.size := by
      have := (List.getElem?_eq_some_iff.mp hx).1
      have := rv.length
      simp; omega
    have hlt2 : i < its2.toArray.size := by
      have := (List.getElem?_eq_some_iff.mp hy).1
      have := rv2.length
      simp; omega
    refine wpAny_pyNext_zipD2_item (sepM D) (drawsK (A := X.A.in1) (I.ok.hd hc) k1 i1 a D.l1i1 its.toArray) (drawsK (A := X.A.in1) (I.ok.hd hc) k2 i2 b D.l2i2 its2.toArray) hz hTI hTO ⟨h1, p⟩ ⟨h2, p2⟩ hlt1 hlt2
      fun u u2 h' tk hu hu2 z' TO' st1 st2 hT hsz hk => ?_
    have ru : RelV x u := by
      obtain ⟨u', q1, q2⟩ := rv.get hx
      have hu : its[i]? = some u := by simpa using hu
      rw [q1] at hu; cases hu; exact q2
    have ru2 : RelV y u2 := by
      obtain ⟨u', q1, q2⟩ := rv2.get hy
      have hu2 : its2[i]? = some u2 := by simpa using hu2
      rw [q1] at hu2; cases hu2; exact q2
    refine ⟨_, rfl, wpAny_letOwnedTupleGo_zip (s := { s with heap := h', toks := tk }) z' fun h'' z'' sb => ?_⟩
    have hT2 : h''.get? s.heap.objs.size = some { cls := .type "tuple", data := .seq #[u, u2] } := (sb.2 _ (Nat.ne_of_gt hzl)).trans hT
    have new : ObjOk X.prog X.w (upd H s.heap.objs.size (.tup [x, y])) h'' s.heap.objs.size (.tup [x, y]) :=
      ⟨by show 2 ≤ sizeLine; decide, [u, u2], .cons ru (.cons ru2 .nil), ⟨_, hT2, rfl, _, rfl⟩⟩
    have I1 : Inv X pins σ (upd H s.heap.objs.size (.tup [x, y])) { s with heap := h'', toks := tk } :=
      I.turnedNew (t' := tk) (ch := [z, TI, TO, i1, i2]) (fun c o hb q => (sb.2 c (fun q' => hb (by simp [q']))).trans (hk c o (fun q' => hb (by simp [q'])) (fun q' => hb (by simp [q'])) (fun q' => hb (by simp [q'])) (fun q' => hb (by simp [q'])) q)) hf (Nat.le_refl _) new
    refine ⟨.ref s.heap.objs.size, _, I1, rfl, ⟨_, x, y, rfl, I.hok.fresh (Nat.le_refl _), rfl, fun l hl => by rw [hl.inj I hqx]; exact hx, fun l hl => by rw [hl.inj I hqy]; exact hy⟩, ⟨z'', ?_, ⟨u, u2, ?_⟩, ?_, ?_⟩, fun c hcm => ?_⟩
    · exact (sb.2 _ D.TIz).trans (hk _ _ D.TIz D.TITO D.TIi1 D.TIi2 hTI)
    · exact (sb.2 _ D.TOz).trans TO'
    · exact st1.1.at fun o q => (sb.2 _ D.i1z).trans q
    · exact st2.1.at fun o q => (sb.2 _ D.i2z).trans q
    · have hlt : c < s.heap.objs.size := by
        have e' : c = z ∨ c = TI ∨ c = TO ∨ c = i1 ∨ c = i2 := by simpa using hcm
        rcases e' with q | q | q | q | q
        · rw [q]; exact hzl
        · rw [q]; exact Heap.lt_size hTI
        · rw [q]; exact Heap.lt_size hTO
        · rw [q]; exact h1.lt
        · rw [q]; exact h2.lt
      rw [upd_ne (Nat.ne_of_lt hlt)]
      exact (hf c hcm).1
  done := by
    intro X hP hw hK hc i pins s σ H E I hf st hg
    subst hP hw hK
    obtain ⟨hz, hTI, ⟨x0, y0, hTO⟩, h1, h2⟩ := st
    obtain ⟨xs, ys, hqx, hqy, hend⟩ := hg
    obtain ⟨its, rv, p, _⟩ := hqx.got I
    obtain ⟨its2, rv2, p2, _⟩ := hqy.got I
    have l1 := rv.length
    have l2 := rv2.length
    refine wpAny_pyNext_zipD2_end (sepM D) (drawsK (A := X.A.in1) (I.ok.hd hc) k1 i1 a D.l1i1 its.toArray) (drawsK (A := X.A.in1) (I.ok.hd hc) k2 i2 b D.l2i2 its2.toArray) hz hTI hTO ⟨h1, p⟩ ⟨h2, p2⟩
      (by simp; omega) (by simp; omega) (by simp; omega) fun h' tk hk => ⟨rfl, I.turnedL (t' := tk) (ch := [z, TI, TO, i1, i2]) (fun c o hb q =>
      hk c o (fun q' => hb (by simp [q'])) (fun q' => hb (by simp [q'])) (fun q' => hb (by simp [q'])) (fun q' => hb (by simp [q'])) q) hf⟩
  self := fun A i s Q E st h => wpAny_pyIter_zip st.1 h
def iZipM (K : PySem.W.Frag) (ta : TA) : TI := fun σ H R => ta σ H fun vs H1 => ∃ a b k1 k2 xs ys, vs = [.ref a, .ref b] ∧ SqK K H1 k1 a xs ∧ SqK K H1 k2 b ys ∧ R (ItzM K k1 k2 a b) H1
theorem pi_zipM {X : Cx} {e e2 : Expr} {ta : TA} {p pos tpos : Pos} {elts : List Expr} {kk : Nat} (hg : Gl X "zip") (hm : X.mg "zip" = none) (ha : PA X [e, e2] ta)
    (hs : starEach [e, e2] X.env = (false, eval e X.env) :: starEach [e2] X.env := by rfl) (hpl : (backTo pos (starEach [e2] X.env)).any (·.1) = false := by rfl) :
    PI X (.Tuple elts kk tpos) (.Call (.Name "zip" p) [e, e2] [] pos) (iZipM X.K ta) := by
  refine ⟨fun pins s σ H R I h => ?_⟩
  refine Call_ (ld_blt I hg hm PyProof.Rows.boot_zip (PyProof.Rows.callWith_type1 (thn (ha.run pos pins s σ H _ I h) fun us s1 ⟨vs, H1, I1, r1, q1⟩ => ?_) hs hpl))
  obtain ⟨a, b, k1, k2, xs, ys, ex, hqx, hqy, q⟩ := q1
  subst ex
  cases r1 with
  | cons r rr =>
    cases rr with
    | cons r' rr =>
      cases rr
      cases r
      cases r'
      have fresh5 : ∀ c, c ∈ [s1.heap.objs.size + 4, s1.heap.objs.size + 2, s1.heap.objs.size + 3, s1.heap.objs.size, s1.heap.objs.size + 1] → FpOk X pins H1 c := fun c hcm => by
        have e' : c = s1.heap.objs.size + 4 ∨ c = s1.heap.objs.size + 2 ∨ c = s1.heap.objs.size + 3 ∨ c = s1.heap.objs.size ∨ c = s1.heap.objs.size + 1 := by simpa using hcm
        have hle : s1.heap.objs.size ≤ c := by
          rcases e' with z | z | z | z | z
          · rw [z]; exact Nat.le_add_right _ _
          · rw [z]; exact Nat.le_add_right _ _
          · rw [z]; exact Nat.le_add_right _ _
          · rw [z]; exact Nat.le_refl _
          · rw [z]; exact Nat.le_add_right _ _
        exact I1.fpOk hle (I1.hok.fresh hle)
      obtain ⟨its, rv, p1, l1⟩ := hqx.got I1
      obtain ⟨its2, rv2, p2, l2⟩ := hqy.got I1
      refine zip_begins2 (beginsK k1 a its.toArray) (beginsK k2 b its2.toArray) p1 p2 fun h' hz hTI hTO h1 h2 hsz hk => wpAny_pyIter_zip hz ?_
      have I2 : Inv X pins σ H1 { s1 with heap := h' } := I1.kept (t' := s1.toks) hk
      exact ⟨s1.heap.objs.size + 4, [s1.heap.objs.size + 4, s1.heap.objs.size + 2, s1.heap.objs.size + 3, s1.heap.objs.size, s1.heap.objs.size + 1], _, _, H1, rfl, I2, turn_zipM k1 k2 (PySem.W.ktu_apart s1.heap.objs.size a b l1 l2), ⟨hz, hTI, ⟨_, _, hTO⟩, ItK.start h1, ItK.start h2⟩, fresh5, q⟩
theorem walk_zipM {K : PySem.W.Frag} {k1 k2 : Bool} {a b : Addr} {xs ys : List V} {n : Nat} (hn : n = min xs.length ys.length) : Walk (ItzM K k1 k2 a b) n (fun H => SqK K H k1 a xs ∧ SqK K H k2 b ys) (YPair (fun i => xs[i]?) (fun i => ys[i]?)) := by
  subst hn
  refine ⟨fun i _ hi q => ?_, fun _ q => ⟨xs, ys, q.1, q.2, rfl⟩, fun i H v H' _ q y => ?_⟩
  · have h1 : i < xs.length := by omega
    have h2 : i < ys.length := by omega
    exact ⟨xs, ys, xs[i], ys[i], q.1, q.2, by simp [h1], by simp [h2]⟩
  · obtain ⟨T, x, z, h1, h2, h3, h4, h5⟩ := y
    exact ⟨T, x, z, h1, h2, h3, h4 xs q.1, h5 ys q.2⟩

/-! ### enumerate -/
def IteM (K : PySem.W.Frag) (k : Bool) (a : Addr) : It :=
  ⟨fun i H => ∃ (xs : List V) (x : V), SqK K H k a xs ∧ xs[i]? = some x, fun i H v H' => ∃ T x, v = .ref T ∧ H T = none ∧ H' = upd H T (.tup [.int (i : Nat), x]) ∧ ∀ xs, SqK K H k a xs → xs[i]? = some x, fun i H => ∃ xs : List V, SqK K H k a xs ∧ xs.length = i⟩
theorem turn_enumM {P : Program} {w : World} {K : PySem.W.Frag} {elts : List Expr} {kk : Nat} {tpos : Pos} (k : Bool) (a e it : Addr) (hae : a ≠ e) (hai : a ≠ it) :
    Turn P w K (.Tuple elts kk tpos) (IteM K k a) [e, it] e (fun i h => (∃ old, IsEnum h e it ((i : Nat) : Int) old) ∧ ItK h k it a i ∧ e ≠ it) where
  mem := by simp
  obj := fun i h st b hb => by
    obtain ⟨⟨old, he⟩, hi, _⟩ := st
    have e' : b = e ∨ b = it := by simpa using hb
    rcases e' with z | z
    · rw [z]; exact ⟨_, he, fun v q => nomatch q⟩
    · rw [z]; exact hi.get
  keep := fun i h h' st k => let ⟨⟨old, he⟩, hi, hne⟩ := st; ⟨⟨old, k e (by simp) _ he⟩, hi.at fun o q => k it (by simp) o q, hne⟩
  item := by
    intro X hP hw hK hc i pins s σ H E I hf st hg
    subst hP hw hK
    obtain ⟨⟨old, he⟩, hit, hne⟩ := st
    obtain ⟨xs, x, hq, hx⟩ := hg
    obtain ⟨its, rv, p, _⟩ := hq.got I
    have hel : e < s.heap.objs.size := Heap.lt_size he
    have hil : it < s.heap.objs.size := hit.lt
    have hlt : i < its.toArray.size := by
      have := (List.getElem?_eq_some_iff.mp hx).1
      have := rv.length
      simp; omega
    refine wpAny_pyNext_enum_itemD (drawsK (A := X.A.in1) (I.ok.hd hc) k it a hai its.toArray) he ⟨hit, p⟩ hlt hne (by simp only [List.mem_cons, List.not_mem_nil, or_false, not_or]; exact ⟨hne, Ne.symm hae⟩) fun u h' tk hu ho st' hT hsz hk => ?_
    have ru : RelV x u := by
      obtain ⟨u', q1, q2⟩ := rv.get hx
      have hu : its[i]? = some u := by simpa using hu
      rw [q1] at hu; cases hu; exact q2
    refine ⟨_, rfl, wpAny_letOwnedTupleGo_enum (s := { s with heap := h', toks := tk + 1 }) ho fun h'' he' sb => ?_⟩
    have hT2 : h''.get? s.heap.objs.size = some { cls := .type "tuple", data := .seq #[.int i tk, u] } := (sb.2 _ (Nat.ne_of_gt hel)).trans hT
    have new : ObjOk X.prog X.w (upd H s.heap.objs.size (.tup [.int (i : Nat), x])) h'' s.heap.objs.size (.tup [.int (i : Nat), x]) :=
      ⟨by show 2 ≤ sizeLine; decide, [.int i tk, u], .cons ⟨_, rfl⟩ (.cons ru .nil), ⟨_, hT2, rfl, _, rfl⟩⟩
    have I1 : Inv X pins σ (upd H s.heap.objs.size (.tup [.int (i : Nat), x])) { s with heap := h'', toks := tk + 1 } :=
      I.turnedNew (ch := [e, it]) (fun b ob hb q => (sb.2 b (fun z => hb (by simp [z]))).trans (hk b ob (fun z => hb (by simp [z])) (fun z => hb (by simp [z])) q)) hf (Nat.le_refl _) new
    refine ⟨.ref s.heap.objs.size, _, I1, rfl, ⟨_, x, rfl, I.hok.fresh (Nat.le_refl _), rfl, fun ys hy => by rw [hy.inj I hq]; exact hx⟩, ⟨⟨u, ?_⟩, st'.1.at fun o q => (sb.2 it (Ne.symm hne)).trans q, hne⟩, fun b hb => ?_⟩
    · have e1 : ((i + 1 : Nat) : Int) = (i : Int) + 1 := by omega
      rw [e1]; exact he'
    · have hb' : b < s.heap.objs.size := by
        have e' : b = e ∨ b = it := by simpa using hb
        rcases e' with z | z
        · rw [z]; exact hel
        · rw [z]; exact hil
      rw [upd_ne (Nat.ne_of_lt hb')]
      exact (hf b hb).1
  done := by
    intro X hP hw hK hc i pins s σ H E I hf st hg
    subst hP hw hK
    obtain ⟨⟨old, he⟩, hit, hne⟩ := st
    obtain ⟨xs, hq, hx⟩ := hg
    obtain ⟨its, rv, p, _⟩ := hq.got I
    obtain ⟨f0, f1, f2, f3, f4, f5⟩ := hf it (by simp)
    have hl := rv.length
    have ei : i = its.toArray.size := by simp; omega
    subst ei
    exact wpAny_pyNext_enum_endD (drawsK (A := X.A.in1) (I.ok.hd hc) k it a hai its.toArray) he ⟨hit, p⟩ fun h' eb => ⟨rfl, I.turned (t' := s.toks) (fun b o hb q => eb b o hb q) f0 f1 f3 f4 f5⟩
  self := fun A i s Q E st h => let ⟨⟨_, he⟩, _⟩ := st; wpAny_pyIter_enum he h
def iEnumM (K : PySem.W.Frag) (ta : TA) : TI := fun σ H R => ta σ H fun vs H1 => ∃ a k xs, vs = [.ref a] ∧ SqK K H1 k a xs ∧ R (IteM K k a) H1
theorem pi_enumM {X : Cx} {e : Expr} {ta : TA} {p pos tpos : Pos} {elts : List Expr} {kk : Nat} (hg : Gl X "enumerate") (hm : X.mg "enumerate" = none) (ha : PA X [e] ta) (hs : starEach [e] X.env = [(false, eval e X.env)] := by rfl) :
    PI X (.Tuple elts kk tpos) (.Call (.Name "enumerate" p) [e] [] pos) (iEnumM X.K ta) := by
  refine ⟨fun pins s σ H R I h => ?_⟩
  refine Call_ (ld_blt I hg hm boot_enumerate (PyProof.Rows.callWith_type1 (thn (ha.run pos pins s σ H _ I h) fun us s1 ⟨vs, H1, I1, r1, q1⟩ => ?_) hs rfl))
  obtain ⟨a, k, xs, ex, hq, q⟩ := q1
  subst ex
  cases r1 with
  | cons r rr =>
    cases rr
    cases r
    obtain ⟨its, rv, p', hl⟩ := hq.got I1
    refine rw_enumB1 (beginsK k a its.toArray) p' fun h' he hit hsz hk => wpAny_pyIter_enum he ?_
    have I2 : Inv X pins σ H1 { s1 with heap := h' } := I1.kept (t' := s1.toks) hk
    refine ⟨s1.heap.objs.size + 1, [s1.heap.objs.size + 1, s1.heap.objs.size], _, _, H1, rfl, I2, turn_enumM k a (s1.heap.objs.size + 1) s1.heap.objs.size (Nat.ne_of_lt (Nat.lt_succ_of_lt hl)) (Nat.ne_of_lt hl), ⟨⟨.none, he⟩, ItK.start hit, Nat.succ_ne_self _⟩, fun b hb => ?_, q⟩
    have e' : b = s1.heap.objs.size + 1 ∨ b = s1.heap.objs.size := by simpa using hb
    have hle : s1.heap.objs.size ≤ b := by
      rcases e' with z | z
      · rw [z]; exact Nat.le_add_right _ _
      · rw [z]; exact Nat.le_refl _
    exact I1.fpOk hle (I1.hok.fresh hle)
theorem walk_enumM {K : PySem.W.Frag} {k : Bool} {a : Addr} {xs : List V} : Walk (IteM K k a) xs.length (fun H => SqK K H k a xs) (YPair (fun i => some (.int (i : Nat))) (fun i => xs[i]?)) := by
  refine ⟨fun i _ hi q => ⟨xs, xs[i], q, by simp [hi]⟩, fun _ q => ⟨xs, q, rfl⟩, fun i H v H' _ q y => ?_⟩
  obtain ⟨T, x, h1, h2, h3, h4⟩ := y
  exact ⟨T, .int (i : Nat), x, h1, h2, h3, rfl, h4 xs q⟩
end Rw
namespace Rw
open PySem PySem.Spec PyProof.Rows L2
section
variable {X : Cx} {T : Tab} {ρ : List Sl} {a b c e : Expr} {pos p p2 apos : Pos} {d d1 d2 d3 : PyData} {ds es : List PyData}

/-! ### places -/
theorem atI_all {H : Hp} {vs : List V} {i : Int} (h : DdAll H vs ds) (k : atI ds i = some d) : ∃ v, atI vs i = some v ∧ Dd H v d := by
  unfold atI at *
  rw [h.len]
  cases q : ixN ds.length i with
  | none => rw [q] at k; cases k
  | some j =>
    rw [q] at k
    exact h.get (show ds[j]? = some d from k)
theorem atI_scr {ns : List Int} {i : Int} {z : Int} (k : atI ns i = some z) : atI (ns.map V.int) i = some (V.int z) := by
  unfold atI at *
  rw [List.length_map]
  cases q : ixN ns.length i with
  | none => rw [q] at k; cases k
  | some j =>
    rw [q] at k
    show (ns.map V.int)[j]? = _
    rw [List.getElem?_map, show ns[j]? = some z from k]; rfl
theorem ev_ix {i : Int} (hd : d1 = .list ds ∨ d1 = .tuple ds) (ha : Ev X T ρ a d1) (hb : Ev X T ρ b (.int i)) (hi : atI ds i = some d) (hs : PlainIx b := by exact fun _ _ => rfl) : Ev X T ρ (.Subscript a b pos) d :=
  pe_imp (pe_ix ix_seq ha hb hs) fun σ H Q ⟨_, _, H0, en, k⟩ => pair en fun v u H0' H' y q1 q2 => by
    cases q2
    rcases hd with rfl | rfl
    · cases q1 with
      | lst h1 h2 =>
        obtain ⟨z, z1, z2⟩ := atI_all h2 hi
        exact .inl ⟨_, _, i, z, rfl, rfl, SqL.of (y.w.sub _ _ h1), z1, k _ _ _ y z2⟩
    · cases q1 with
      | tup h1 h2 =>
        obtain ⟨z, z1, z2⟩ := atI_all h2 hi
        exact .inr (.inl ⟨_, _, i, z, rfl, rfl, SqT.of (y.w.sub _ _ h1), z1, k _ _ _ y z2⟩)
theorem ev_ixL {i : Int} (ha : Ev X T ρ a (.list ds)) (hb : Ev X T ρ b (.int i)) (hi : atI ds i = some d) (hs : PlainIx b := by exact fun _ _ => rfl) : Ev X T ρ (.Subscript a b pos) d := ev_ix (.inl rfl) ha hb hi hs
theorem ev_ixT {i : Int} (ha : Ev X T ρ a (.tuple ds)) (hb : Ev X T ρ b (.int i)) (hi : atI ds i = some d) (hs : PlainIx b := by exact fun _ _ => rfl) : Ev X T ρ (.Subscript a b pos) d := ev_ix (.inr rfl) ha hb hi hs
/-- an own list's item -/
theorem ev_ixO {x : Str} {i : Int} (n : Nat) (hr : ρ[n]? = some (.own ds)) (hb : Ev X T ρ b (.int i)) (hi : atI ds i = some d) (hN : X.N[n]? = some x := by rfl) (hv : Vis X.env.scope x := by first | exact Or.inl rfl | exact Or.inr (Or.inl rfl) | exact Or.inr (Or.inr rfl))
    (hdb : (x == ("__debug__" : Str)) = false := by decide) (hcd : (x == ("__classdict__" : Str)) = false := by decide) (hs : PlainIx b := by exact fun _ _ => rfl) : Ev X T ρ (.Subscript (.Name x p) b pos) d :=
  pe_imp (pe_ix ix_list (pe_var hN hv hdb hcd) hb hs) fun σ H Q ⟨Hs0, Hs, H0, en, k⟩ => by
    obtain ⟨ad, vs, h1, h2, h3, h4, h5⟩ := en.getOwn hr
    refine ⟨_, h1, Hs0, Hs, H0, en, fun u H0' H' y q2 => ?_⟩
    cases q2
    obtain ⟨z, z1, z2⟩ := atI_all h5 hi
    exact ⟨_, _, i, z, rfl, rfl, SqL.of (y.e _ _ h2 (fun _ z => by cases z)), z1, k _ _ _ y (z2.mono y.f)⟩
/-- the script's item -/
theorem ev_ixS {x : Str} {i z : Int} {ns : List Int} (n : Nat) (hr : ρ[n]? = some (.scr ns)) (hb : Ev X T ρ b (.int i)) (hi : atI ns i = some z) (hN : X.N[n]? = some x := by rfl) (hv : Vis X.env.scope x := by first | exact Or.inl rfl | exact Or.inr (Or.inl rfl) | exact Or.inr (Or.inr rfl))
    (hdb : (x == ("__debug__" : Str)) = false := by decide) (hcd : (x == ("__classdict__" : Str)) = false := by decide) (hs : PlainIx b := by exact fun _ _ => rfl) : Ev X T ρ (.Subscript (.Name x p) b pos) (.int z) :=
  pe_imp (pe_ix ix_list (pe_var hN hv hdb hcd) hb hs) fun σ H Q ⟨Hs0, Hs, H0, en, k⟩ => by
    obtain ⟨ad, h1, h2⟩ := en.getScr hr
    refine ⟨_, h1, Hs0, Hs, H0, en, fun u H0' H' y q2 => ?_⟩
    cases q2
    exact ⟨_, _, i, .int z, rfl, rfl, (h2.ext y.e).sql, atI_scr hi, k _ _ _ y (.int z)⟩
/-! ### slices -/
def cutG {α : Type} (xs : List α) (lo hi : Option Int) : List α := (xs.drop (HT.sIx xs.length 0 lo)).take (HT.sIx xs.length xs.length hi - HT.sIx xs.length 0 lo)
theorem cutG_all {H : Hp} {vs : List V} {lo hi : Option Int} (h : DdAll H vs ds) : DdAll H (cutV vs lo hi) (cutG ds lo hi) := by
  unfold cutV cutG
  rw [h.len]
  exact DdAll.take _ (DdAll.drop _ h)
theorem cutG_map {α β : Type} (f : α → β) (xs : List α) (lo hi : Option Int) : cutG (xs.map f) lo hi = (cutG xs lo hi).map f := by
  unfold cutG
  rw [List.length_map, List.map_take, List.map_drop]
theorem cutV_ints (ns : List Int) (lo hi : Option Int) : cutV (ns.map V.int) lo hi = (cutG ns lo hi).map V.int := cutG_map V.int ns lo hi
def tO (K : PySem.W.Frag) (T : Tab) (ρ : List Sl) (o : Option Int) : TO := fun σ H Q => ∃ Hs0 Hs H0, En K T Hs0 Hs H0 H σ ρ ∧ ∀ H0' H', Wx T H0 H H0' H' → Q o H'
def Eo (X : Cx) (T : Tab) (ρ : List Sl) (e : Option Expr) (o : Option Int) : Prop := PO X e (tO X.K T ρ o)
theorem po_imp {e : Option Expr} {t t' : TO} (h : PO X e t) (k : ∀ σ H Q, t' σ H Q → t σ H Q) : PO X e t' := ⟨fun pins s σ H Q I q => h.run pins s σ H Q I (k σ H Q q)⟩
theorem eo_none : Eo X T ρ none none := po_imp po_none fun σ H Q ⟨_, _, H0, en, k⟩ => k H0 H (Wx.refl en.w)
theorem eo_some {i : Int} (h : Ev X T ρ e (.int i)) : Eo X T ρ (some e) (some i) := po_imp (po_some h) fun σ H Q ⟨Hs0, Hs, H0, en, k⟩ => ⟨Hs0, Hs, H0, en, fun v H0' H' y q => by
  cases q
  exact ⟨i, rfl, k _ _ y⟩⟩
section
variable {lo hi : Option Expr} {l h : Option Int}
theorem ef_cut (ha : Ev X T ρ a (.list ds)) (hl : Eo X T ρ lo l) (hh : Eo X T ρ hi h) : Ef X T ρ (.Subscript a (.Slice lo hi none p2) pos) (cutG ds l h) :=
  pe_imp (pe_slice sl_list ha hl hh) fun σ H Q ⟨Hs0, Hs, H0, en, k⟩ => ⟨Hs0, Hs, H0, en, fun v H1 H1' y1 q1 => ⟨Hs0, Hs, H1, en.mono y1, fun H2 H2' y2 => ⟨Hs0, Hs, H2, (en.mono y1).mono y2, fun H3 H3' y3 => by
    have y := (y1.trans y2).trans y3
    cases q1 with
    | lst h1 h2 =>
      refine ⟨_, _, rfl, SqL.of (y.w.sub _ _ (y3.f _ _ (y2.f _ _ h1))), fun q hq => ?_⟩
      exact k q _ _ _ (y.trans (Wx.ext y.w (sub_upd hq))) upd_same (y.w.none hq) (y.k _ hq) (cutG_all ((h2.mono y2.f).mono y3.f))⟩⟩⟩
/-- the script's slice -/
theorem ef_cutS {x : Str} {ns : List Int} (n : Nat) (hr : ρ[n]? = some (.scr ns)) (hl : Eo X T ρ lo l) (hh : Eo X T ρ hi h) (hN : X.N[n]? = some x := by rfl) (hv : Vis X.env.scope x := by first | exact Or.inl rfl | exact Or.inr (Or.inl rfl) | exact Or.inr (Or.inr rfl))
    (hdb : (x == ("__debug__" : Str)) = false := by decide) (hcd : (x == ("__classdict__" : Str)) = false := by decide) : Ef X T ρ (.Subscript (.Name x p) (.Slice lo hi none p2) pos) ((cutG ns l h).map .int) :=
  pe_imp (pe_slice sl_list (pe_var hN hv hdb hcd) hl hh) fun σ H Q ⟨Hs0, Hs, H0, en, k⟩ => by
    obtain ⟨ad, h1, h2⟩ := en.getScr hr
    refine ⟨_, h1, ⟨Hs0, Hs, H0, en, fun H2 H2' y2 => ⟨Hs0, Hs, H2, en.mono y2, fun H3 H3' y3 => ?_⟩⟩⟩
    have y := y2.trans y3
    refine ⟨_, _, rfl, (h2.ext y.e).sql, fun q hq => ?_⟩
    rw [cutV_ints]
    exact k q _ _ _ (y.trans (Wx.ext y.w (sub_upd hq))) upd_same (y.w.none hq) (y.k _ hq) DdAll.ints
theorem ev_cutT (ha : Ev X T ρ a (.tuple ds)) (hl : Eo X T ρ lo l) (hh : Eo X T ρ hi h) : Ev X T ρ (.Subscript a (.Slice lo hi none p2) pos) (.tuple (cutG ds l h)) :=
  pe_imp (pe_slice sl_tupA ha hl hh) fun σ H Q ⟨Hs0, Hs, H0, en, k⟩ => ⟨Hs0, Hs, H0, en, fun v H1 H1' y1 q1 => ⟨Hs0, Hs, H1, en.mono y1, fun H2 H2' y2 => ⟨Hs0, Hs, H2, (en.mono y1).mono y2, fun H3 H3' y3 => by
    have y := (y1.trans y2).trans y3
    cases q1 with
    | tup h1 h2 =>
      have h1' := y3.f _ _ (y2.f _ _ h1)
      have h2' := (h2.mono y2.f).mono y3.f
      refine ⟨_, _, rfl, SqT.of (y.w.sub _ _ h1'), fun z => ?_, fun _ q hq => ?_⟩
      · refine k _ _ _ y (.tup h1' ?_)
        have e : cutG ds l h = ds := by
          unfold cutG
          rw [h2.len] at z
          rw [z.1, z.2, List.drop_zero, Nat.sub_zero, List.take_length]
        rw [e]; exact h2'
      · exact k _ _ _ (y.trans (Wx.new y.w hq (fun _ z => by cases z))) (.tup upd_same ((cutG_all h2').mono (sub_upd (y.w.none hq))))⟩⟩⟩
end
/-! ### arguments, displays -/
variable {ps : List Sl} {rest : List Expr} {pl : Sl}
theorem ea_nil : Ea X T ρ [] [] := pa_imp pa_nil fun σ H Q ⟨_, _, H0, en, k⟩ => k _ H0 H (Wx.refl en.w) .nil
theorem ea_cons (h : Ev X T ρ e d) (hr : Ea X T ρ rest ps) (hs : starEach (e :: rest) X.env = (false, eval e X.env) :: starEach rest X.env := by rfl) : Ea X T ρ (e :: rest) (.dat d :: ps) :=
  pa_imp (pa_cons h hr (hs := hs)) fun σ H Q ⟨Hs0, Hs, H0, en, k⟩ => ⟨Hs0, Hs, H0, en, fun v H1 H1' y1 q1 => ⟨Hs0, Hs, H1, en.mono y1, fun vs H2 H2' y2 q2 => k _ _ _ (y1.trans y2) (.cons (.dat (q1.mono y2.f)) q2)⟩⟩
theorem ea_scr {x : Str} {ns : List Int} (n : Nat) (hr : Ea X T ρ rest ps) (h : ρ[n]? = some (.scr ns) := by rfl) (hN : X.N[n]? = some x := by rfl) (hv : Vis X.env.scope x := by first | exact Or.inl rfl | exact Or.inr (Or.inl rfl) | exact Or.inr (Or.inr rfl))
    (hdb : (x == ("__debug__" : Str)) = false := by decide) (hcd : (x == ("__classdict__" : Str)) = false := by decide) : Ea X T ρ (.Name x p :: rest) (.scr ns :: ps) :=
  pa_imp (pa_cons (pe_var hN hv hdb hcd) hr) fun σ H Q ⟨Hs0, Hs, H0, en, k⟩ => by
    obtain ⟨ad, h1, h2⟩ := en.getScr h
    exact ⟨_, h1, Hs0, Hs, H0, en, fun vs H2 H2' y2 q2 => k _ _ _ y2 (.cons (.scr (h2.ext y2.e)) q2)⟩
theorem AdAll.dats {K : PySem.W.Frag} {H0 H : Hp} : ∀ {ds : List PyData} {vs : List V}, AdAll K H0 H vs (ds.map .dat) → DdAll H0 vs ds
  | [], _, h => by cases h; exact .nil
  | _ :: _, _, h => by
    cases h with
    | cons h1 h2 => cases h1 with | dat h1 => exact .cons h1 (AdAll.dats h2)
theorem ev_tup {x1} {es : List Expr} (h : Ea X T ρ es (ds.map .dat)) (hz : ds.length ≤ sizeLine) : Ev X T ρ (.Tuple es x1 pos) (.tuple ds) :=
  pe_imp (pe_tup h) fun σ H Q ⟨Hs0, Hs, H0, en, k⟩ => ⟨Hs0, Hs, H0, en, fun vs H1 H1' y1 q1 => ⟨by rw [q1.dats.len]; exact hz, fun q hq =>
    k _ _ _ (y1.trans (Wx.new y1.w hq (fun _ z => by cases z))) (.tup upd_same (q1.dats.mono (sub_upd (y1.w.none hq))))⟩⟩
theorem ef_lst {es : List Expr} (h : Ea X T ρ es (ds.map .dat)) (hz : ds.length ≤ sizeLine) : Ef X T ρ (.List es pos) ds :=
  pe_imp (pe_lst h) fun σ H Q ⟨Hs0, Hs, H0, en, k⟩ => ⟨Hs0, Hs, H0, en, fun vs H1 H1' y1 q1 => ⟨by rw [q1.dats.len]; exact hz, fun q hq =>
    k _ _ _ _ (y1.trans (Wx.ext y1.w (sub_upd hq))) upd_same (y1.w.none hq) (y1.k _ hq) q1.dats⟩⟩
/-! ### built-ins by name -/
/-- no built-in name is taken by the module -/
structure Bt (mg : Str → Option Value) : Prop where
  len : mg "len" = none
  tuple : mg "tuple" = none
  list : mg "list" = none
  sum : mg "sum" = none
  all : mg "all" = none
  int : mg "int" = none
  bool : mg "bool" = none
  abs : mg "abs" = none
  isinstance : mg "isinstance" = none
  range : mg "range" = none
  zip : mg "zip" = none
  enumerate : mg "enumerate" = none
  reversed : mg "reversed" = none
  sorted : mg "sorted" = none
  min : mg "min" = none
theorem ev_callB {id : String} {r : List V → Hp → VK → Prop} {x : Str} (hc : CallR X (.builtin id) r) (hg : Gl X x) (hm : X.mg x = none) (hv : bootBuiltins x = some (.builtin id)) (ha : Ea X T ρ (e :: rest) ps)
    (h : ∀ vs H0 H, Wd T H0 H → AdAll X.K H0 H vs ps → ∀ Q : VK, (∀ z H0' H', Wx T H0 H H0' H' → Dd H0' z d → Q z H') → r vs H Q) (hn : x ≠ "__name__" := by decide) (hdb : (x == ("__debug__" : Str)) = false := by decide)
    (he : starEach (e :: rest) X.env = (false, eval e X.env) :: starEach rest X.env := by rfl) (hpl : (backTo pos (starEach rest X.env)).any (·.1) = false := by rfl) : Ev X T ρ (.Call (.Name x p) (e :: rest) [] pos) d :=
  pe_imp (pe_callB hc hg hm hv ha hn hdb he hpl) fun σ H Q ⟨Hs0, Hs, H0, en, k⟩ => ⟨Hs0, Hs, H0, en, fun vs H1 H1' y1 q1 => h vs _ _ y1.w q1 Q fun z H2 H2' y2 q2 => k _ _ _ (y1.trans y2) q2⟩
theorem ev_callTy {id : String} {r : List V → Hp → VK → Prop} {x : Str} (hc : CallR X (.type id) r) (hg : Gl X x) (hm : X.mg x = none) (hv : bootBuiltins x = some (.type id)) (ha : Ea X T ρ (e :: rest) ps)
    (h : ∀ vs H0 H, Wd T H0 H → AdAll X.K H0 H vs ps → ∀ Q : VK, (∀ z H0' H', Wx T H0 H H0' H' → Dd H0' z d → Q z H') → r vs H Q) (hn : x ≠ "__name__" := by decide) (hdb : (x == ("__debug__" : Str)) = false := by decide)
    (he : starEach (e :: rest) X.env = (false, eval e X.env) :: starEach rest X.env := by rfl) (hpl : (backTo pos (starEach rest X.env)).any (·.1) = false := by rfl) : Ev X T ρ (.Call (.Name x p) (e :: rest) [] pos) d :=
  pe_imp (pe_callTy hc hg hm hv ha hn hdb he hpl) fun σ H Q ⟨Hs0, Hs, H0, en, k⟩ => ⟨Hs0, Hs, H0, en, fun vs H1 H1' y1 q1 => h vs _ _ y1.w q1 Q fun z H2 H2' y2 q2 => k _ _ _ (y1.trans y2) q2⟩
theorem ad1 {K : PySem.W.Frag} {H0 H : Hp} {vs : List V} (h : AdAll K H0 H vs [.dat d]) : ∃ v, vs = [v] ∧ Dd H0 v d := by
  cases h with
  | cons h1 h2 =>
    cases h2
    cases h1 with
    | dat h1 => exact ⟨_, rfl, h1⟩
section
variable (B : Bt X.mg)
include B
theorem ev_len (hd : d = .list ds ∨ d = .tuple ds) (ha : Ev X T ρ a d) (hg : Gl X "len" := by rfl) (he : starEach [a] X.env = (false, eval a X.env) :: starEach [] X.env := by rfl) : Ev X T ρ (.Call (.Name "len" p) [a] [] pos) (.int ds.length) :=
  ev_callB call_len_seq hg B.len PySem.boot_len (ea_cons ha ea_nil he) (fun vs H0 H w q Q k => by
    obtain ⟨v, rfl, q'⟩ := ad1 q
    rcases hd with rfl | rfl
    · cases q' with
      | lst h1 h2 => exact ⟨_, _, rfl, .inl (SqL.of (w.sub _ _ h1)), by rw [h2.len]; exact k _ _ _ (Wx.refl w) (.int _)⟩
    · cases q' with
      | tup h1 h2 => exact ⟨_, _, rfl, .inr (SqT.of (w.sub _ _ h1)), by rw [h2.len]; exact k _ _ _ (Wx.refl w) (.int _)⟩) (he := he)
theorem ev_lenL (ha : Ev X T ρ a (.list ds)) (hg : Gl X "len" := by rfl) (he : starEach [a] X.env = (false, eval a X.env) :: starEach [] X.env := by rfl) : Ev X T ρ (.Call (.Name "len" p) [a] [] pos) (.int ds.length) := ev_len B (.inl rfl) ha hg he
theorem ev_lenT (ha : Ev X T ρ a (.tuple ds)) (hg : Gl X "len" := by rfl) (he : starEach [a] X.env = (false, eval a X.env) :: starEach [] X.env := by rfl) : Ev X T ρ (.Call (.Name "len" p) [a] [] pos) (.int ds.length) := ev_len B (.inr rfl) ha hg he
theorem ev_lenS {x : Str} {ns : List Int} (n : Nat) (hr : ρ[n]? = some (.scr ns) := by rfl) (hg : Gl X "len" := by rfl) (hN : X.N[n]? = some x := by rfl) (hv : Vis X.env.scope x := by first | exact Or.inl rfl | exact Or.inr (Or.inl rfl) | exact Or.inr (Or.inr rfl))
    (hdb : (x == ("__debug__" : Str)) = false := by decide) (hcd : (x == ("__classdict__" : Str)) = false := by decide) : Ev X T ρ (.Call (.Name "len" p) [.Name x p2] [] pos) (.int ns.length) :=
  ev_callB call_len_seq hg B.len PySem.boot_len (ea_scr n ea_nil hr hN hv hdb hcd) fun vs H0 H w q Q k => by
    cases q with
    | cons h1 h2 =>
      cases h2
      cases h1 with
      | scr h1 => exact ⟨_, _, rfl, .inl h1.sql, by rw [List.length_map]; exact k _ _ _ (Wx.refl w) (.int _)⟩
theorem ev_lenO {x : Str} (n : Nat) (hr : ρ[n]? = some (.own ds) := by rfl) (hg : Gl X "len" := by rfl) (hN : X.N[n]? = some x := by rfl) (hv : Vis X.env.scope x := by first | exact Or.inl rfl | exact Or.inr (Or.inl rfl) | exact Or.inr (Or.inr rfl))
    (hdb : (x == ("__debug__" : Str)) = false := by decide) (hcd : (x == ("__classdict__" : Str)) = false := by decide) : Ev X T ρ (.Call (.Name "len" p) [.Name x p2] [] pos) (.int ds.length) :=
  pe_imp (pe_callB call_len_seq hg B.len PySem.boot_len (pa_cons (pe_var hN hv hdb hcd) pa_nil)) fun σ H Q ⟨Hs0, Hs, H0, en, k⟩ => by
    obtain ⟨ad, vs, h1, h2, h3, h4, h5⟩ := en.getOwn hr
    exact ⟨_, h1, ad, vs, rfl, .inl (SqL.of h2), by rw [h5.len]; exact k _ _ _ (Wx.refl en.w) (.int _)⟩
theorem ev_tuple (hd : d = .list ds ∨ d = .tuple ds) (ha : Ev X T ρ a d) (hg : Gl X "tuple" := by rfl) (he : starEach [a] X.env = (false, eval a X.env) :: starEach [] X.env := by rfl) : Ev X T ρ (.Call (.Name "tuple" p) [a] [] pos) (.tuple ds) :=
  ev_callTy call_tuple_of hg B.tuple PyProof.Rows.boot_tuple (ea_cons ha ea_nil he) (fun vs H0 H w q Q k => by
    obtain ⟨v, rfl, q'⟩ := ad1 q
    rcases hd with rfl | rfl
    · cases q' with
      | lst h1 h2 => exact ⟨_, _, rfl, .inl ⟨SqL.of (w.sub _ _ h1), fun l hl => k _ _ _ (Wx.new w hl (fun _ z => by cases z)) (.tup upd_same (h2.mono (sub_upd (w.none hl))))⟩⟩
    · cases q' with
      | tup h1 h2 => exact ⟨_, _, rfl, .inr ⟨SqT.of (w.sub _ _ h1), k _ _ _ (Wx.refl w) (.tup h1 h2)⟩⟩) (he := he)
theorem ev_tupL (ha : Ev X T ρ a (.list ds)) (hg : Gl X "tuple" := by rfl) (he : starEach [a] X.env = (false, eval a X.env) :: starEach [] X.env := by rfl) : Ev X T ρ (.Call (.Name "tuple" p) [a] [] pos) (.tuple ds) := ev_tuple B (.inl rfl) ha hg he
theorem ev_tupO {x : Str} (n : Nat) (hr : ρ[n]? = some (.own ds) := by rfl) (hg : Gl X "tuple" := by rfl) (hN : X.N[n]? = some x := by rfl) (hv : Vis X.env.scope x := by first | exact Or.inl rfl | exact Or.inr (Or.inl rfl) | exact Or.inr (Or.inr rfl))
    (hdb : (x == ("__debug__" : Str)) = false := by decide) (hcd : (x == ("__classdict__" : Str)) = false := by decide) : Ev X T ρ (.Call (.Name "tuple" p) [.Name x p2] [] pos) (.tuple ds) :=
  pe_imp (pe_callTy call_tuple_of hg B.tuple PyProof.Rows.boot_tuple (pa_cons (pe_var hN hv hdb hcd) pa_nil)) fun σ H Q ⟨Hs0, Hs, H0, en, k⟩ => by
    obtain ⟨ad, vs, h1, h2, h3, h4, h5⟩ := en.getOwn hr
    exact ⟨_, h1, ad, vs, rfl, .inl ⟨SqL.of h2, fun l hl => k _ _ _ (Wx.new en.w hl (fun _ z => by cases z)) (.tup upd_same (h5.mono (sub_upd (en.w.none hl))))⟩⟩
theorem ef_list (hd : d = .list ds ∨ d = .tuple ds) (ha : Ev X T ρ a d) (hg : Gl X "list" := by rfl) (he : starEach [a] X.env = (false, eval a X.env) :: starEach [] X.env := by rfl) : Ef X T ρ (.Call (.Name "list" p) [a] [] pos) ds :=
  pe_imp (pe_callTy call_list_of hg B.list PyProof.Rows.boot_list (ea_cons ha ea_nil he) (he := he)) fun σ H Q ⟨Hs0, Hs, H0, en, k⟩ => ⟨Hs0, Hs, H0, en, fun vs H1 H1' y1 q => by
    obtain ⟨v, rfl, q'⟩ := ad1 q
    rcases hd with rfl | rfl
    · cases q' with
      | lst h1 h2 => exact ⟨_, _, rfl, .inl (SqL.of (y1.w.sub _ _ h1)), fun l hl => k _ _ _ _ (y1.trans (Wx.ext y1.w (sub_upd hl))) upd_same (y1.w.none hl) (y1.k _ hl) h2⟩
    · cases q' with
      | tup h1 h2 => exact ⟨_, _, rfl, .inr (SqT.of (y1.w.sub _ _ h1)), fun l hl => k _ _ _ _ (y1.trans (Wx.ext y1.w (sub_upd hl))) upd_same (y1.w.none hl) (y1.k _ hl) h2⟩⟩
theorem ef_listL (ha : Ev X T ρ a (.list ds)) (hg : Gl X "list" := by rfl) (he : starEach [a] X.env = (false, eval a X.env) :: starEach [] X.env := by rfl) : Ef X T ρ (.Call (.Name "list" p) [a] [] pos) ds := ef_list B (.inl rfl) ha hg he
theorem ef_listT (ha : Ev X T ρ a (.tuple ds)) (hg : Gl X "list" := by rfl) (he : starEach [a] X.env = (false, eval a X.env) :: starEach [] X.env := by rfl) : Ef X T ρ (.Call (.Name "list" p) [a] [] pos) ds := ef_list B (.inr rfl) ha hg he
theorem ev_sum {ns : List Int} (hc : X.calm = true) (ha : Ev X T ρ a (.list (ns.map .int))) (hg : Gl X "sum" := by rfl) (he : starEach [a] X.env = (false, eval a X.env) :: starEach [] X.env := by rfl) : Ev X T ρ (.Call (.Name "sum" p) [a] [] pos) (.int ns.sum) :=
  ev_callB (cr_sum hc) hg B.sum PyProof.Rows.boot_sum (ea_cons ha ea_nil he) (fun vs H0 H w q Q k => by
    obtain ⟨v, rfl, q'⟩ := ad1 q
    cases q' with
    | lst h1 h2 =>
      have e := h2.ofInts
      subst e
      exact ⟨_, ns, rfl, SqL.of (w.sub _ _ h1), k _ _ _ (Wx.refl w) (.int _)⟩) (he := he)
theorem ev_all {ns : List Bool} (hc : X.calm = true) (ha : Ev X T ρ a (.list (ns.map .bool))) (hg : Gl X "all" := by rfl) (he : starEach [a] X.env = (false, eval a X.env) :: starEach [] X.env := by rfl) : Ev X T ρ (.Call (.Name "all" p) [a] [] pos) (.bool (ns.all id)) :=
  ev_callB (cr_all hc) hg B.all PyProof.Rows.boot_all (ea_cons ha ea_nil he) (fun vs H0 H w q Q k => by
    obtain ⟨v, rfl, q'⟩ := ad1 q
    cases q' with
    | lst h1 h2 =>
      have e := h2.ofBls
      subst e
      exact ⟨_, ns, rfl, SqL.of (w.sub _ _ h1), k _ _ _ (Wx.refl w) (.bl _)⟩) (he := he)
theorem ev_intB {x : Bool} (ha : Ev X T ρ a (.bool x)) (hg : Gl X "int" := by rfl) (he : starEach [a] X.env = (false, eval a X.env) :: starEach [] X.env := by rfl) : Ev X T ρ (.Call (.Name "int" p) [a] [] pos) (.int (if x then 1 else 0)) :=
  ev_callTy call_int1 hg B.int PyProof.Rows.boot_int (ea_cons ha ea_nil he) (fun vs H0 H w q Q k => by
    obtain ⟨v, rfl, q'⟩ := ad1 q
    cases q'
    exact .inr ⟨x, rfl, k _ _ _ (Wx.refl w) (.int _)⟩) (he := he)
theorem ev_abs {i : Int} (ha : Ev X T ρ a (.int i)) (hg : Gl X "abs" := by rfl) (he : starEach [a] X.env = (false, eval a X.env) :: starEach [] X.env := by rfl) : Ev X T ρ (.Call (.Name "abs" p) [a] [] pos) (.int (if i < 0 then -i else i)) :=
  ev_callB call_abs hg B.abs PyProof.Rows.boot_abs (ea_cons ha ea_nil he) (fun vs H0 H w q Q k => by
    obtain ⟨v, rfl, q'⟩ := ad1 q
    cases q'
    exact ⟨i, rfl, k _ _ _ (Wx.refl w) (.int _)⟩) (he := he)
/-! ### isinstance -/
omit B in
def tyOf : PyData → String
  | .none => "NoneType"
  | .bool _ => "bool"
  | .int _ => "int"
  | .str _ => "str"
  | .list _ => "list"
  | .tuple _ => "tuple"
  | .dict _ => "dict"
omit B in
theorem Dd.ty {K : PySem.W.Frag} {H : Hp} {v : V} (h : Dd H v d) : TyX K H v (.type (tyOf d)) := by
  cases h with
  | non => exact .base .non
  | bl => exact .base (.bl _)
  | int => exact .base (.int _)
  | str => exact .base (.str _)
  | lst h => exact .base (.lst h)
  | tup h => exact .base (.tup h)
theorem ev_isi {t : String} {x : Str} {r : Bool} (ha : Ev X T ρ a d) (hk : kitB (tyOf d) t = some r) (hm : X.mg x = none) (hv : bootBuiltins x = some (.type t)) (hg : Gl X "isinstance" := by rfl) (hg2 : Gl X x := by rfl) (hn : x ≠ "__name__" := by decide) (hdb : (x == ("__debug__" : Str)) = false := by decide)
    (he : starEach [a, .Name x p2] X.env = (false, eval a X.env) :: starEach [.Name x p2] X.env := by rfl) : Ev X T ρ (.Call (.Name "isinstance" p) [a, .Name x p2] [] pos) (.bool r) :=
  pe_imp (pe_callB call_isi hg B.isinstance PyProof.Rows.boot_isinstance (pa_cons (hs := he) ha (pa_cons (pe_bltn (v := .ty t) hg2 hm hv rfl hn hdb) pa_nil)) (he := he)) fun σ H Q ⟨Hs0, Hs, H0, en, k⟩ => ⟨Hs0, Hs, H0, en, fun v H1 H1' y1 q =>
    ⟨v, .ty t, _, _, r, rfl, .ty t, (q.mono y1.w.sub).ty, kit_ty hk, k _ _ _ y1 (.bl _)⟩⟩
end
/-! ### defs -/
/-- a def's promise -/
def spD (K : PySem.W.Frag) (T : Tab) (n : Nat) (Sem : List Sl → PyData → Prop) : Sp := fun vs H Q _ => ∃ H0 ps d, Wd T H0 H ∧ AdAll K H0 H vs ps ∧ ps.length = n ∧ Sem ps d ∧ ∀ v H0' H', Wx T H0 H H0' H' → Dd H0' v d → Q v H'
/-- the def x of the module keeps its promise -/
def Df (P : Program) (w : World) (K : PySem.W.Frag) (mg : Str → Option Value) (base : Heap) (T : Tab) (k : Nat) (x : Str) (n : Nat) (Sem : List Sl → PyData → Prop) : Prop :=
  ∃ (f : Addr) (fd : FuncData) (qs : List Str), FnOk P w K mg base CX0 k f fd qs (spD K T n Sem) ∧ mg x = some (.ref f) ∧ PySem.W.keepIn K (.ref f) = true ∧ Binds K fd qs []
theorem AdAll.len {K : PySem.W.Frag} {H0 H : Hp} : ∀ {ps : List Sl} {vs : List V}, AdAll K H0 H vs ps → vs.length = ps.length
  | _, _, .nil => rfl
  | _, _, .cons _ t => by rw [List.length_cons, List.length_cons, t.len]
theorem ev_call {k n m : Nat} {x : Str} {Sem : List Sl → PyData → Prop} (F : Df X.prog X.w X.K X.mg X.base T k x m Sem) (hr : Room n X.A) (ha : Ea X T ρ (e :: rest) ps) (hs : Sem ps d) (hm : ps.length = m := by rfl) (hkn : k ≤ n := by decide)
    (hg : Gl X x := by rfl) (hdb : (x == ("__debug__" : Str)) = false := by decide) (he : starEach (e :: rest) X.env = (false, eval e X.env) :: starEach rest X.env := by rfl) (hpl : (backTo pos (starEach rest X.env)).any (·.1) = false := by rfl) : Ev X T ρ (.Call (.Name x p) (e :: rest) [] pos) d := by
  obtain ⟨f, fd, qs, F, hmg, hk, hb⟩ := F
  exact pe_imp (pe_call F (hr.mono hkn) hg hmg hk hb .nil pass0 ha hdb he hpl) fun σ H Q ⟨Hs0, Hs, H0, en, k⟩ => ⟨Hs0, Hs, H0, en, fun vs H1 H1' y1 q =>
    ⟨H1, ps, d, y1.w, by rw [List.append_nil]; exact q, hm, hs, fun v H2 H2' y2 q2 => k _ _ _ (y1.trans y2) q2⟩⟩
end
end Rw
namespace Rw
open PySem PySem.Spec PyProof.Rows L2

/-- from any world ahead, the items ys come in turn -/
def ItsOk (T : Tab) (H0 : Hp) (J : It) (ys : List PyData) : Prop := ∃ (G : Hp → Prop) (Y : Nat → Hp → V → Hp → Prop), Walk J ys.length G Y ∧
  (∀ H01 H1, Wd T H01 H1 → Sub H0 H01 → G H1) ∧
  ∀ i H01 H1 v H2, i < ys.length → Wd T H01 H1 → Sub H0 H01 → Y i H1 v H2 → ∃ H02 d, Wx T H01 H1 H02 H2 ∧ ys[i]? = some d ∧ Dd H02 v d
def tI (K : PySem.W.Frag) (T : Tab) (ρ : List Sl) (ys : List PyData) : TI := fun σ H R => ∃ Hs0 Hs H0, En K T Hs0 Hs H0 H σ ρ ∧ ∀ J H0' H', Wx T H0 H H0' H' → ItsOk T H0' J ys → R J H'
def Ei (X : Cx) (T : Tab) (ρ : List Sl) (tg iter : Expr) (ys : List PyData) : Prop := PI X tg iter (tI X.K T ρ ys)
theorem pi_imp {X : Cx} {tg e : Expr} {t t' : TI} (h : PI X tg e t) (k : ∀ σ H Q, t' σ H Q → t σ H Q) : PI X tg e t' := ⟨fun pins s σ H Q I q => h.run pins s σ H Q I (k σ H Q q)⟩
section
variable {X : Cx} {T : Tab} {ρ : List Sl} {a b c e tg iter : Expr} {pos p p2 tpos : Pos} {d d1 d2 d3 : PyData} {ds es ys : List PyData}
theorem Ei.eq {zs : List PyData} (h : Ei X T ρ tg iter ys) (k : ys = zs) : Ei X T ρ tg iter zs := k ▸ h
theorem its_list {H0 : Hp} {l : Addr} {vs : List V} {K : PySem.W.Frag} (h1 : H0 l = some (.lst vs)) (h2 : DdAll H0 vs ds) : ItsOk T H0 (Itl K l) ds := by
  refine ⟨_, _, by rw [← h2.len]; exact walk_list (K := K) (a := l) (xs := vs), fun H01 H1 w s => SqL.of (w.sub _ _ (s _ _ h1)), fun i H01 H1 v H2 hi w s y => ?_⟩
  obtain ⟨rfl, y⟩ := y
  obtain ⟨d, q1, q2⟩ := h2.get' y
  exact ⟨H01, d, Wx.refl w, q1, q2.mono s⟩
theorem its_tup {H0 : Hp} {l : Addr} {vs : List V} {K : PySem.W.Frag} (h1 : H0 l = some (.tup vs)) (h2 : DdAll H0 vs ds) : ItsOk T H0 (Itt K l) ds := by
  refine ⟨_, _, by rw [← h2.len]; exact walk_tup (K := K) (a := l) (xs := vs), fun H01 H1 w s => SqT.of (w.sub _ _ (s _ _ h1)), fun i H01 H1 v H2 hi w s y => ?_⟩
  obtain ⟨rfl, y⟩ := y
  obtain ⟨d, q1, q2⟩ := h2.get' y
  exact ⟨H01, d, Wx.refl w, q1, q2.mono s⟩
theorem ei_list (h : Ev X T ρ iter (.list ds)) : Ei X T ρ tg iter ds :=
  pi_imp (pi_list h) fun σ H R ⟨Hs0, Hs, H0, en, k⟩ => ⟨Hs0, Hs, H0, en, fun v H1 H1' y q => by
    cases q with
    | lst h1 h2 => exact ⟨_, rfl, ⟨_, SqL.of (y.w.sub _ _ h1)⟩, k _ _ _ y (its_list h1 h2)⟩⟩
theorem ei_tup (h : Ev X T ρ iter (.tuple ds)) : Ei X T ρ tg iter ds :=
  pi_imp (pi_tup h) fun σ H R ⟨Hs0, Hs, H0, en, k⟩ => ⟨Hs0, Hs, H0, en, fun v H1 H1' y q => by
    cases q with
    | tup h1 h2 => exact ⟨_, rfl, ⟨_, SqT.of (y.w.sub _ _ h1)⟩, k _ _ _ y (its_tup h1 h2)⟩⟩
def rng (lo : Int) (n : Nat) : List Int := (List.range n).map fun k : Nat => lo + (k : Int)
theorem its_range {H0 : Hp} {lo : Int} {n : Nat} : ItsOk T H0 (Itr lo n) ((rng lo n).map .int) := by
  have hl : ((rng lo n).map PyData.int).length = n := by unfold rng; simp
  refine ⟨_, _, by rw [hl]; exact walk_range, fun _ _ _ _ => True.intro, fun i H01 H1 v H2 hi w s y => ?_⟩
  obtain ⟨rfl, rfl⟩ := y
  rw [hl] at hi
  exact ⟨H01, .int (lo + i), Wx.refl w, by unfold rng; simp [hi], .int _⟩
theorem ei_range1 {j : Int} (B : Bt X.mg) (ha : Ev X T ρ a (.int j)) (hj : -(2 ^ 62) ≤ j ∧ j < 2 ^ 62) (hg : Gl X "range" := by rfl) (hs : starEach [a] X.env = (false, eval a X.env) :: starEach [] X.env := by rfl) : Ei X T ρ tg (.Call (.Name "range" p) [a] [] pos) ((rng 0 j.toNat).map .int) :=
  pi_imp (pi_range1 hg B.range (ea_cons ha ea_nil hs) (hs := hs)) fun σ H R ⟨Hs0, Hs, H0, en, k⟩ => ⟨Hs0, Hs, H0, en, fun vs H1 H1' y q => by
    obtain ⟨v, rfl, q'⟩ := ad1 q
    cases q'
    exact ⟨j, rfl, hj.1, hj.2, k _ _ _ y its_range⟩⟩
theorem ei_range2 {i j : Int} (B : Bt X.mg) (ha : Ev X T ρ a (.int i)) (hb : Ev X T ρ b (.int j)) (hij : -(2 ^ 62) ≤ i ∧ i < 2 ^ 62 ∧ -(2 ^ 62) ≤ j ∧ j < 2 ^ 62) (hg : Gl X "range" := by rfl)
    (hs : starEach [a, b] X.env = (false, eval a X.env) :: starEach [b] X.env := by rfl) (hs2 : starEach [b] X.env = (false, eval b X.env) :: starEach [] X.env := by rfl) :
    Ei X T ρ tg (.Call (.Name "range" p) [a, b] [] pos) ((rng i (j - i).toNat).map .int) :=
  pi_imp (pi_range2 hg B.range (ea_cons ha (ea_cons hb ea_nil hs2) hs) (hs := by rw [hs, hs2]; rfl) (hs2 := by rw [hs2]; rfl)) fun σ H R ⟨Hs0, Hs, H0, en, k⟩ => ⟨Hs0, Hs, H0, en, fun vs H1 H1' y q => by
    cases q with
    | cons h1 h2 =>
      cases h2 with
      | cons h2 h3 =>
        cases h3
        cases h1 with
        | dat h1 =>
          cases h2 with
          | dat h2 =>
            cases h1
            cases h2
            exact ⟨i, j, rfl, hij, k _ _ _ y its_range⟩⟩
/-- lists and tuples, either way -/
theorem Dd.sqk {H0 : Hp} {v : V} (hd : d = .list ds ∨ d = .tuple ds) (h : Dd H0 v d) : ∃ k a vs, v = .ref a ∧ DdAll H0 vs ds ∧ ∀ (K : PySem.W.Frag) (H : Hp), Sub H0 H → SqK K H k a vs := by
  rcases hd with rfl | rfl
  · cases h with
    | lst h1 h2 => exact ⟨true, _, _, rfl, h2, fun K H s => SqL.of (s _ _ h1)⟩
  · cases h with
    | tup h1 h2 => exact ⟨false, _, _, rfl, h2, fun K H s => SqT.of (s _ _ h1)⟩
def pairD (x y : PyData) : PyData := .tuple [x, y]
theorem its_pair {H0 : Hp} {J : It} {G : Hp → Prop} {f g : Nat → Option V} {n : Nat} (w : Walk J n G (YPair f g)) (hn : ys.length = n) (hG : ∀ H1, Sub H0 H1 → G H1) (hy : ∀ i x y, i < n → f i = some x → g i = some y → ∃ d e, ys[i]? = some (pairD d e) ∧ Dd H0 x d ∧ Dd H0 y e) : ItsOk T H0 J ys := by
  refine ⟨_, _, by rw [hn]; exact w, fun H01 H1 w s => hG H1 fun b o h => w.sub _ _ (s _ _ h), fun i H01 H1 v H2 hi w s y => ?_⟩
  obtain ⟨Ta, x, z, rfl, hT, rfl, q1, q2⟩ := y
  obtain ⟨d, e, r1, r2, r3⟩ := hy i x z (by rw [← hn]; exact hi) q1 q2
  have u := sub_upd (o := .tup [x, z]) (w.none hT)
  exact ⟨_, _, Wx.new w hT (fun _ z => by cases z), r1, .tup upd_same (.cons ((r2.mono s).mono u) (.cons ((r3.mono s).mono u) .nil))⟩
theorem ei_zip {elts : List Expr} {kk : Nat} (B : Bt X.mg) (hd : d1 = .list ds ∨ d1 = .tuple ds) (he : d2 = .list es ∨ d2 = .tuple es) (ha : Ev X T ρ a d1) (hb : Ev X T ρ b d2) (hg : Gl X "zip" := by rfl)
    (hs : starEach [a, b] X.env = (false, eval a X.env) :: starEach [b] X.env := by rfl) (hs2 : starEach [b] X.env = (false, eval b X.env) :: starEach [] X.env := by rfl) (hpl : (backTo pos (starEach [b] X.env)).any (·.1) = false := by rfl) :
    Ei X T ρ (.Tuple elts kk tpos) (.Call (.Name "zip" p) [a, b] [] pos) ((ds.zip es).map fun q => pairD q.1 q.2) :=
  pi_imp (pi_zipM hg B.zip (ea_cons ha (ea_cons hb ea_nil hs2) hs) (hs := hs) (hpl := hpl)) fun σ H R ⟨Hs0, Hs, H0, en, k⟩ => ⟨Hs0, Hs, H0, en, fun vs H1 H1' y q => by
    cases q with
    | cons h1 h2 =>
      cases h2 with
      | cons h2 h3 =>
        cases h3
        cases h1 with
        | dat h1 =>
          cases h2 with
          | dat h2 =>
            obtain ⟨k1, a1, xs, rfl, m1, s1⟩ := h1.sqk hd
            obtain ⟨k2, a2, zs, rfl, m2, s2⟩ := h2.sqk he
            refine ⟨a1, a2, k1, k2, xs, zs, rfl, s1 _ _ y.w.sub, s2 _ _ y.w.sub, k _ _ _ y ?_⟩
            refine its_pair (walk_zipM (n := min xs.length zs.length) rfl) (by rw [List.length_map, List.length_zip, m1.len, m2.len]) (fun H1 s => ⟨s1 _ _ s, s2 _ _ s⟩) fun i x z hi q1 q2 => ?_
            obtain ⟨d, r1, r2⟩ := m1.get' q1
            obtain ⟨e, r3, r4⟩ := m2.get' q2
            refine ⟨d, e, ?_, r2, r4⟩
            rw [List.getElem?_map, (List.getElem?_zip_eq_some (z := (d, e))).mpr ⟨r1, r3⟩]; rfl⟩
def enumG {α : Type} (xs : List α) : List (Nat × α) := (List.range xs.length).zip xs
theorem ei_enum {elts : List Expr} {kk : Nat} (B : Bt X.mg) (hd : d1 = .list ds ∨ d1 = .tuple ds) (ha : Ev X T ρ a d1) (hg : Gl X "enumerate" := by rfl)
    (hs : starEach [a] X.env = (false, eval a X.env) :: starEach [] X.env := by rfl) :
    Ei X T ρ (.Tuple elts kk tpos) (.Call (.Name "enumerate" p) [a] [] pos) ((enumG ds).map fun q => pairD (.int (q.1 : Int)) q.2) :=
  pi_imp (pi_enumM hg B.enumerate (ea_cons ha ea_nil hs) (hs := hs)) fun σ H R ⟨Hs0, Hs, H0, en, k⟩ => ⟨Hs0, Hs, H0, en, fun vs H1 H1' y q => by
    obtain ⟨v, rfl, q'⟩ := ad1 q
    obtain ⟨k1, a1, xs, rfl, m1, s1⟩ := q'.sqk hd
    refine ⟨a1, k1, xs, rfl, s1 _ _ y.w.sub, k _ _ _ y ?_⟩
    refine its_pair walk_enumM (by unfold enumG; rw [List.length_map, List.length_zip, List.length_range, m1.len]; omega) (fun H1 s => s1 _ _ s) fun i x z hi q1 q2 => ?_
    cases q1
    obtain ⟨e, r3, r4⟩ := m1.get' q2
    refine ⟨.int i, e, ?_, .int _, r4⟩
    unfold enumG
    have hlt : i < ds.length := by rw [← m1.len]; exact hi
    rw [List.getElem?_map, (List.getElem?_zip_eq_some (z := (i, e))).mpr ⟨by simp [hlt], r3⟩]; rfl⟩
theorem ei_rev (B : Bt X.mg) (ha : Ev X T ρ a (.list ds)) (hg : Gl X "reversed" := by rfl) (hs : starEach [a] X.env = (false, eval a X.env) :: starEach [] X.env := by rfl) : Ei X T ρ tg (.Call (.Name "reversed" p) [a] [] pos) ds.reverse :=
  pi_imp (RT.pi_revA hg B.reversed ha (hs := hs)) fun σ H R ⟨Hs0, Hs, H0, en, k⟩ => ⟨Hs0, Hs, H0, en, fun v H1 H1' y q => by
    cases q with
    | lst h1 h2 =>
      rename_i a1 xs
      refine ⟨a1, xs, rfl, .inl ⟨SqL.of (y.w.sub _ _ h1), k _ _ _ y ?_⟩⟩
      refine ⟨_, _, by rw [List.length_reverse, ← h2.len]; exact walk_rev, fun H01 H1 w s => SqL.of (w.sub _ _ (s _ _ h1)), fun i H01 H1 v H2 hi w s y => ?_⟩
      obtain ⟨rfl, y⟩ := y
      obtain ⟨d, q1, q2⟩ := h2.get' y
      rw [List.length_reverse] at hi
      refine ⟨H01, d, Wx.refl w, ?_, q2.mono s⟩
      rw [List.getElem?_reverse hi, ← h2.len]
      exact q1⟩
/-! ### targets -/
def tG (K : PySem.W.Frag) (T : Tab) (js : List Nat) (tgt : PyData → List Sl → Option (List Sl)) : TG := fun v σ H Q => ∃ Hs0 Hs H0 ρ d ρ', En K T Hs0 Hs H0 H σ ρ ∧ Dd H0 v d ∧ tgt d ρ = some ρ' ∧
  ∀ σ', En K T Hs0 Hs H0 H σ' ρ' → (∀ vs : List Nat, (∀ j ∈ js, j ∈ vs) → wipe σ' vs = wipe σ vs) → Q σ' H
def Eg (X : Cx) (T : Tab) (tg : Expr) (js : List Nat) (tgt : PyData → List Sl → Option (List Sl)) : Prop := PG X tg (tG X.K T js tgt)
theorem pg_imp {X : Cx} {tg : Expr} {t t' : TG} (h : PG X tg t) (k : ∀ v σ H Q, t' v σ H Q → t v σ H Q) : PG X tg t' := ⟨fun pins s σ H v u Q I r q => h.run pins s σ H v u Q I r (k v σ H Q q)⟩
theorem wipe_set {σ : L2.St} {j : Nat} {o : Option V} : ∀ {vs : List Nat}, j ∈ vs → wipe (σ.set j o) vs = wipe σ vs
  | v :: vs, h => by
    unfold wipe
    by_cases hv : j ∈ vs
    · rw [wipe_set hv]
    · have e : j = v := by
        rcases List.mem_cons.mp h with h | h
        · exact h
        · exact absurd h hv
      subst e
      have key : ∀ (us : List Nat), j ∉ us → wipe (σ.set j o) us = (wipe σ us).set j o := fun us => by
        induction us with
        | nil => intro _; rfl
        | cons u us ih =>
          intro hu
          have h1 : u ≠ j := fun z => hu (by simp [z])
          have h2 : j ∉ us := fun z => hu (by simp [z])
          unfold wipe
          rw [ih h2, List.set_comm _ _ (Ne.symm h1)]
      rw [key vs hv, List.set_set]
theorem wipe_wipe {σ : L2.St} {vs : List Nat} : ∀ {us : List Nat}, (∀ u ∈ us, u ∈ vs) → wipe (wipe σ us) vs = wipe σ vs
  | [], _ => rfl
  | u :: us, h => by
    show wipe ((wipe σ us).set u none) vs = _
    rw [wipe_set (h u (by simp)), wipe_wipe fun w hw => h w (by simp [hw])]
def tgName (j : Nat) : PyData → List Sl → Option (List Sl) := fun d ρ => some (ρ.set j (.dat d))
theorem eg_name {x : Str} (j : Nat) (hN : X.N.Nodup) (hi : X.N[j]? = some x := by rfl) (hx : Loc X.env.scope x := by first | exact Or.inl rfl | exact Or.inr rfl) (hf : X.fn x = true ∨ X.env.scope.names.lookup x = some .local := by first | exact .inl rfl | exact .inr rfl) : Eg X T (.Name x p) [j] (tgName j) :=
  pg_imp (pg_name hN hi hx hf) fun v σ H Q ⟨Hs0, Hs, H0, ρ, d, ρ', en, h1, h2, k⟩ => by
    cases h2
    exact k _ (en.set h1) fun vs hv => wipe_set (hv j (by simp))
def tgPair (i j : Nat) : PyData → List Sl → Option (List Sl) := fun d ρ => match d with
  | .tuple [x, y] => some ((ρ.set i (.dat x)).set j (.dat y))
  | _ => none
theorem eg_pair {x y : Str} {kk : Nat} (i j : Nat) (hc : X.calm = true) (hN : X.N.Nodup) (hi : X.N[i]? = some x := by rfl) (hx : Loc X.env.scope x := by first | exact Or.inl rfl | exact Or.inr rfl) (hf : X.fn x = true ∨ X.env.scope.names.lookup x = some .local := by first | exact .inl rfl | exact .inr rfl)
    (hj : X.N[j]? = some y := by rfl) (hy : Loc X.env.scope y := by first | exact Or.inl rfl | exact Or.inr rfl) (hf2 : X.fn y = true ∨ X.env.scope.names.lookup y = some .local := by first | exact .inl rfl | exact .inr rfl) : Eg X T (.Tuple [.Name x p, .Name y p2] kk tpos) [i, j] (tgPair i j) :=
  pg_imp (pg_tup hc (pgs_cons (pg_name hN hi hx hf) (pgs_cons (pg_name hN hj hy hf2) pgs_nil))) fun v σ H Q ⟨Hs0, Hs, H0, ρ, d, ρ', en, h1, h2, k⟩ => by
    unfold tgPair at h2
    split at h2
    · cases h2
      cases h1 with
      | tup h1 h3 =>
        cases h3 with
        | cons h3 h4 =>
          cases h4 with
          | cons h4 h5 =>
            cases h5
            refine ⟨_, _, rfl, SqT.of (en.w.sub _ _ h1), rfl, _, _, rfl, _, _, rfl, rfl, k _ ((en.set h3).set h4) fun vs hv => ?_⟩
            rw [wipe_set (hv j (by simp)), wipe_set (hv i (by simp))]
    · cases h2
/-! ### comprehensions -/
def wipeR (ρ : List Sl) : List Nat → List Sl
  | [] => ρ
  | v :: vs => (wipeR ρ vs).set v .no
theorem En.set_no {K : PySem.W.Frag} {Hs0 Hs H0 H : Hp} {σ : L2.St} (en : En K T Hs0 Hs H0 H σ ρ) (i : Nat) : En K T Hs0 Hs H0 H (σ.set i none) (ρ.set i .no) := by
  refine ⟨en.x, fun j p hp => ?_, by rw [List.length_set, List.length_set]; exact en.l, fun j k a ds es hjk h1 h2 h3 => ?_⟩
  · by_cases hj : i = j
    · subst hj
      have hl : i < ρ.length := lt_set hp
      rw [List.getElem?_set_self hl] at hp
      cases hp
      exact ⟨none, List.getElem?_set_self (by rw [← en.l]; exact hl), .no _⟩
    · rw [List.getElem?_set_ne hj] at hp
      obtain ⟨o, q1, q2⟩ := en.s j p hp
      exact ⟨o, by rw [List.getElem?_set_ne hj]; exact q1, q2⟩
  · have nj : i ≠ j := fun z => by
      subst z
      rw [List.getElem?_set_self (lt_set h1)] at h1; cases h1
    have nk : i ≠ k := fun z => by
      subst z
      rw [List.getElem?_set_self (lt_set h2)] at h2; cases h2
    rw [List.getElem?_set_ne nj] at h1 h3
    rw [List.getElem?_set_ne nk] at h2 ⊢
    exact en.d j k a ds es hjk h1 h2 h3
theorem En.wipe {K : PySem.W.Frag} {Hs0 Hs H0 H : Hp} {σ : L2.St} (en : En K T Hs0 Hs H0 H σ ρ) : ∀ vs : List Nat, En K T Hs0 Hs H0 H (L2.wipe σ vs) (wipeR ρ vs)
  | [] => en
  | v :: vs => (En.wipe en vs).set_no v
/-- a list that a world ahead does not know is written -/
theorem Wx.wr {A B H0 H : Hp} {D : Addr} {vs ws : List V} (y : Wx T A B H0 H) (h1 : B D = none) (h2 : H0 D = none) (h3 : H D = some (.lst vs)) : Wx T A B H0 (upd H D (.lst ws)) := by
  have tb : ∀ b o, H b = some o → b ≠ D → upd H D (.lst ws) b = some o := fun b o h hb => by rw [upd_ne hb]; exact h
  refine ⟨⟨fun b o h => ?_, y.w.nt, fun p hp => ?_⟩, y.f, fun b o h k => ?_, fun b h => ?_, y.n⟩
  · exact tb b o (y.w.sub b o h) fun z => by subst z; rw [h2] at h; cases h
  · obtain ⟨ps, t1, t2, t3⟩ := y.w.tabs p hp
    refine ⟨ps, tb _ _ t1 (fun z => by subst z; rw [h3] at t1; cases t1), t2, fun pos cv hc => ?_⟩
    obtain ⟨c, r1, r2⟩ := t3 pos cv hc
    exact ⟨c, r1, tb _ _ r2 fun z => by subst z; rw [h3] at r2; cases r2⟩
  · exact tb b o (y.e b o h k) fun z => by subst z; rw [h1] at h; cases h
  · by_cases hb : b = D
    · subst hb; rw [upd_same] at h; cases h
    · rw [upd_ne hb] at h; exact y.k b h
def Ets (X : Cx) (T : Tab) (ρ : List Sl) (ifs : List Expr) (b : Bool) : Prop := PTs X ifs (tT X.K T ρ b)
theorem pts_imp {X : Cx} {ifs : List Expr} {t t' : TT} (h : PTs X ifs t) (k : ∀ σ H Q, t' σ H Q → t σ H Q) : PTs X ifs t' := ⟨fun pins s σ H Q I q => h.run pins s σ H Q I (k σ H Q q)⟩
theorem ets_nil : Ets X T ρ [] true := pts_imp pts_nil fun σ H Q ⟨_, _, H0, en, k⟩ => k H0 H (Wx.refl en.w)
theorem ets_one {x : Bool} (h : Et X T ρ c x) : Ets X T ρ [c] x := pts_one h
theorem filt_succ {α : Type} {xs : List α} {i : Nat} {x : α} (f : α → Bool) (h : xs[i]? = some x) : (xs.take (i + 1)).filter f = (xs.take i).filter f ++ (if f x = true then [x] else []) := by
  rw [List.take_add_one, h, List.filter_append]
  congr 1
  show List.filter f [x] = _
  by_cases hf : f x = true
  · rw [if_pos hf, List.filter_cons_of_pos hf]; rfl
  · rw [if_neg hf, List.filter_cons_of_neg hf]; rfl
/-- what the comprehension's parts read, from a world ahead -/
def teX (K : PySem.W.Frag) (T : Tab) {α : Type} (xs : List α) (keep : α → Bool) (val : α → PyData) (ρx : α → List Sl) : TE := fun σ H Q => ∃ x, x ∈ xs ∧ keep x = true ∧ tD K T (ρx x) (val x) σ H Q
def ttX (K : PySem.W.Frag) (T : Tab) {α : Type} (xs : List α) (keep : α → Bool) (ρx : α → List Sl) : TT := fun σ H Q => ∃ x, x ∈ xs ∧ tT K T (ρx x) (keep x) σ H Q
theorem lc_read {α : Type} {K : PySem.W.Frag} {own : List Nat} {js : List Nat} {tgt : PyData → List Sl → Option (List Sl)} {xs : List α} {emb : α → PyData} {keep : α → Bool} {val : α → PyData} {ρx : α → List Sl}
    (hz : xs.length < sizeLine) (hjs : ∀ j ∈ js, j ∈ own) (hx : ∀ x ∈ xs, tgt (emb x) (wipeR ρ own) = some (ρx x)) (σ : L2.St) (H : Hp) (Q : VK) (h : tF K T ρ ((xs.filter keep).map val) σ H Q) :
    tLc (tI K T ρ (xs.map emb)) (tG K T js tgt) (ttX K T xs keep ρx) (teX K T xs keep val ρx) own σ H Q := by
  obtain ⟨Hs0, Hs, H0, en, k⟩ := h
  refine ⟨Hs0, Hs, H0, en, fun J Hb0 Hb yb its D hD => ?_⟩
  obtain ⟨G, Y, W, hG, hY⟩ := its
  rw [List.length_map] at W hY
  have enb := (en.mono yb).wipe (own)
  refine lc_it (g := tG K T js tgt) (tt := ttX K T xs keep ρx) (te := teX K T xs keep val ρx) (vs := own) (σ := σ) (Qd := fun H' => Q (.ref D) H') W (fun i H' => ∃ H0' vs, Wx T Hb0 Hb H0' H' ∧ H' D = some (.lst vs) ∧ H0' D = none ∧ DdAll H0' vs (((xs.take i).filter keep).map val)) ⟨Hb0, [], Wx.ext yb.w (sub_upd hD), upd_same, yb.w.none hD, .nil⟩
    (fun i H' _ ⟨H0', vs, y, _⟩ => hG _ _ y.w y.f) (fun i v H1 H2 hi ⟨H0', vs, y, q1, q2, q3⟩ yv => ?_) fun H' ⟨H0', vs, y, q1, q2, q3⟩ => ?_
  · obtain ⟨H02, d, y2, e1, e2⟩ := hY i H0' H1 v H2 hi y.w y.f yv
    have hx1 : xs[i]? = some xs[i] := by simp [hi]
    have hm : xs[i] ∈ xs := List.getElem_mem hi
    rw [List.getElem?_map, hx1] at e1
    cases e1
    have hlen : vs.length < sizeLine := by
      have := q3.len
      rw [this, List.length_map]
      exact Nat.lt_of_le_of_lt (Nat.le_trans (List.length_filter_le _ _) (by rw [List.length_take]; exact Nat.min_le_right _ _)) hz
    have D2 : H2 D = some (.lst vs) := y2.e _ _ q1 (fun _ z => by cases z)
    refine ⟨_, _, _, _, _, _, enb.mono (y.trans y2), e2, hx _ hm, fun σ2 en2 hw => ⟨(hw _ hjs).trans (wipe_wipe fun _ h => h), xs[i], hm, _, _, _, en2, fun H03 H3 y3 => ?_⟩⟩
    have yy := (y.trans y2).trans y3
    have n3 : H03 D = none := by
      have z2 : H02 D = none := by
        cases q : H02 D with
        | none => rfl
        | some u => rw [y2.n D u q q2] at q1; cases q1
      cases q : H03 D with
      | none => rfl
      | some u => rw [y3.n D u q z2] at D2; cases D2
    have D3 : H3 D = some (.lst vs) := y3.e _ _ D2 (fun _ z => by cases z)
    have q3' := (q3.mono y2.f).mono y3.f
    cases hk : keep xs[i] with
    | false =>
      refine iteF ⟨H03, vs, yy, D3, n3, ?_⟩
      rw [filt_succ keep hx1, hk]
      simpa using q3'
    | true =>
      refine iteT ⟨xs[i], hm, hk, _, _, _, en2.mono y3, fun v4 H04 H4 y4 q4 => ?_⟩
      have D4 : H4 D = some (.lst vs) := y4.e _ _ D3 (fun _ z => by cases z)
      have n4 : H04 D = none := by
        cases q : H04 D with
        | none => rfl
        | some u => rw [y4.n D u q n3] at D3; cases D3
      refine ⟨vs, D4, hlen, H04, vs ++ [v4], (yy.trans y4).wr hD n4 D4, upd_same, n4, ?_⟩
      rw [filt_succ keep hx1, hk, List.map_append]
      exact (q3'.mono y4.f).append (.cons q4 .nil)
  · rw [List.take_length] at q3
    exact k D vs H0' H' (yb.trans y) q1 q2 (yb.k _ hD) q3
section
variable {α : Type} {elt : Expr} {ifs : List Expr} {scope : Scope} {js : List Nat} {tgt : PyData → List Sl → Option (List Sl)} {xs : List α} {emb : α → PyData} {keep : α → Bool} {val : α → PyData} {ρx : α → List Sl}
theorem ef_lc (own : List (Str × Nat)) 
    (hc : X.calm = true) (hN : X.N.Nodup) (ok : BlkOk X.N X.env.scope scope own) (hi : Ei X T ρ tg iter (xs.map emb)) (hz : xs.length < sizeLine)
    (hg : ∀ (s : Shared) (H : Hp) (C : Addr) (cl : List (Str × Addr)) (fp : List Addr), Eg (X.blk s H scope (compEnvC scope cl C X.env) fp) T tg js tgt) (hjs : ∀ j ∈ js, j ∈ own.map (·.2)) (hx : ∀ x ∈ xs, tgt (emb x) (wipeR ρ (own.map (·.2))) = some (ρx x))
    (ht : ∀ (s : Shared) (H : Hp) (C : Addr) (cl : List (Str × Addr)) (fp : List Addr), ∀ x ∈ xs, Ets (X.blk s H scope (compEnvC scope cl C X.env) fp) T (ρx x) ifs (keep x))
    (he : ∀ (s : Shared) (H : Hp) (C : Addr) (cl : List (Str × Addr)) (fp : List Addr), ∀ x ∈ xs, keep x = true → Ev (X.blk s H scope (compEnvC scope cl C X.env) fp) T (ρx x) elt (val x))
    (hs : ∀ x, foldedSetIterable iter X.env x = pure x := by intro _; rfl) : Ef X T ρ (.ListComp elt [⟨tg, iter, ifs, 0⟩] scope pos) ((xs.filter keep).map val) :=
  pe_imp (pe_lc (g := tG X.K T js tgt) (tt := ttX X.K T xs keep ρx) (te := teX X.K T xs keep val ρx) hc hN hi ok hg (fun s H C cl fp => ⟨fun pins s1 σ H1 Q I ⟨x, hx, q⟩ => (ht s H C cl fp x hx).run pins s1 σ H1 Q I q⟩) (fun s H C cl fp => ⟨fun pins s1 σ H1 Q I ⟨x, hx, hk, q⟩ => (he s H C cl fp x hx hk).run pins s1 σ H1 Q I q⟩) hs)
    fun σ H Q h => lc_read hz hjs hx σ H Q h
/-- without a test -/
theorem ef_lc0 (own : List (Str × Nat)) (hc : X.calm = true) (hN : X.N.Nodup) (ok : BlkOk X.N X.env.scope scope own) (hi : Ei X T ρ tg iter (xs.map emb)) (hz : xs.length < sizeLine)
    (hg : ∀ (s : Shared) (H : Hp) (C : Addr) (cl : List (Str × Addr)) (fp : List Addr), Eg (X.blk s H scope (compEnvC scope cl C X.env) fp) T tg js tgt) (hjs : ∀ j ∈ js, j ∈ own.map (·.2)) (hx : ∀ x ∈ xs, tgt (emb x) (wipeR ρ (own.map (·.2))) = some (ρx x))
    (he : ∀ (s : Shared) (H : Hp) (C : Addr) (cl : List (Str × Addr)) (fp : List Addr), ∀ x ∈ xs, Ev (X.blk s H scope (compEnvC scope cl C X.env) fp) T (ρx x) elt (val x))
    (hs : ∀ x, foldedSetIterable iter X.env x = pure x := by intro _; rfl) : Ef X T ρ (.ListComp elt [⟨tg, iter, [], 0⟩] scope pos) (xs.map val) := by
  have h := ef_lc (elt := elt) (keep := fun _ => true) (pos := pos) own hc hN ok hi hz hg hjs hx (fun s H C cl fp x _ => ets_nil) (fun s H C cl fp x hx _ => he s H C cl fp x hx) hs
  rw [List.filter_eq_self.mpr fun _ _ => rfl] at h
  exact h
end
end
end Rw
namespace Rw
open PySem PySem.Spec PyProof.Rows L2
/-- what is wanted behind a statement, by data -/
structure Po where
  nx : List Sl → Prop
  rt : PyData → Prop
  bk : List Sl → Prop := fun _ => False
  ct : List Sl → Prop := fun _ => False
def tS (K : PySem.W.Frag) (T : Tab) (ρ : List Sl) (P : Po) : TS := fun D σ H => ∃ Hs0 Hs H0, En K T Hs0 Hs H0 H σ ρ ∧
  (∀ ρ' σ' H0' H', P.nx ρ' → Sub H0 H0' → En K T Hs0 Hs H0' H' σ' ρ' → D.nx σ' H') ∧
  (∀ ρ' σ' H0' H', P.bk ρ' → Sub H0 H0' → En K T Hs0 Hs H0' H' σ' ρ' → D.bk σ' H') ∧
  (∀ ρ' σ' H0' H', P.ct ρ' → Sub H0 H0' → En K T Hs0 Hs H0' H' σ' ρ' → D.ct σ' H') ∧
  ∀ d v H0' H', P.rt d → Wx T Hs0 Hs H0' H' → Dd H0' v d → D.rt v H'
def St1 (X : Cx) (T : Tab) (ρ : List Sl) (s : Stmt) (P : Po) : Prop := PS X s (tS X.K T ρ P)
def Ss (X : Cx) (T : Tab) (ρ : List Sl) (ss : List Stmt) (P : Po) : Prop := PSs X ss (tS X.K T ρ P)
section
variable {X : Cx} {T : Tab} {ρ : List Sl} {a b c e tg iter : Expr} {pos p p2 tpos : Pos} {d d1 d2 d3 : PyData} {ds es ys : List PyData} {P : Po} {st : Stmt} {rest body orelse : List Stmt}
theorem ps_imp {t t' : TS} (h : PS X st t) (k : ∀ D σ H, t' D σ H → t D σ H) : PS X st t' := ⟨fun pins s σ H D I q => h.run pins s σ H D I (k D σ H q)⟩
theorem pss_imp {t t' : TS} (h : PSs X rest t) (k : ∀ D σ H, t' D σ H → t D σ H) : PSs X rest t' := ⟨fun pins s σ H D I q => h.run pins s σ H D I (k D σ H q)⟩
theorem sub_refl (H : Hp) : Sub H H := fun _ _ h => h
theorem sub_trans {H H1 H2 : Hp} (a : Sub H H1) (b : Sub H1 H2) : Sub H H2 := fun x o h => b x o (a x o h)
theorem ss_nil (h : P.nx ρ) : Ss X T ρ [] P := pss_imp pss_nil fun D σ H ⟨_, _, H0, en, k, _⟩ => k ρ σ H0 H h (sub_refl _) en
theorem ss_cons {M : List Sl → Prop} (h1 : St1 X T ρ st { P with nx := M }) (h2 : ∀ ρ', M ρ' → Ss X T ρ' rest P) : Ss X T ρ (st :: rest) P :=
  pss_imp (pss_cons (u := fun D σ H => ∃ ρ', M ρ' ∧ tS X.K T ρ' P D σ H) h1 ⟨fun pins s σ H D I ⟨ρ', m, q⟩ => (h2 ρ' m).run pins s σ H D I q⟩) fun D σ H ⟨Hs0, Hs, H0, en, k1, k2, k3, k4⟩ =>
    ⟨Hs0, Hs, H0, en, fun ρ' σ' H0' H' m s en' => ⟨ρ', m, Hs0, Hs, H0', en', fun ρ2 σ2 H2 H2' q s2 e2 => k1 ρ2 σ2 H2 H2' q (sub_trans s s2) e2, fun ρ2 σ2 H2 H2' q s2 e2 => k2 ρ2 σ2 H2 H2' q (sub_trans s s2) e2, fun ρ2 σ2 H2 H2' q s2 e2 => k3 ρ2 σ2 H2 H2' q (sub_trans s s2) e2, k4⟩, k2, k3, k4⟩
/-- behind a statement one state stands -/
theorem ss_then {ρ1 : List Sl} (h1 : St1 X T ρ st { P with nx := fun ρ' => ρ' = ρ1 }) (h2 : Ss X T ρ1 rest P) : Ss X T ρ (st :: rest) P := ss_cons h1 fun ρ' e => by subst e; exact h2
theorem ss_one (h1 : St1 X T ρ st P) : Ss X T ρ [st] P := ss_cons (M := P.nx) h1 fun ρ' h => ss_nil h
/-- nothing behind it is reached -/
theorem ss_stop (h1 : St1 X T ρ st { P with nx := fun _ => False }) : Ss X T ρ (st :: rest) P := ss_cons h1 fun ρ' h => h.elim
theorem st_weak {P' : Po} (h : St1 X T ρ st P) (k1 : ∀ ρ', P.nx ρ' → P'.nx ρ') (k2 : ∀ ρ', P.bk ρ' → P'.bk ρ') (k3 : ∀ ρ', P.ct ρ' → P'.ct ρ') (k4 : ∀ d, P.rt d → P'.rt d) : St1 X T ρ st P' :=
  ps_imp h fun D σ H ⟨Hs0, Hs, H0, en, q1, q2, q3, q4⟩ => ⟨Hs0, Hs, H0, en, fun ρ' σ' H0' H' m => q1 ρ' σ' H0' H' (k1 _ m), fun ρ' σ' H0' H' m => q2 ρ' σ' H0' H' (k2 _ m), fun ρ' σ' H0' H' m => q3 ρ' σ' H0' H' (k3 _ m), fun d v H0' H' m => q4 d v H0' H' (k4 _ m)⟩
theorem ss_weak {P' : Po} (h : Ss X T ρ rest P) (k1 : ∀ ρ', P.nx ρ' → P'.nx ρ') (k2 : ∀ ρ', P.bk ρ' → P'.bk ρ') (k3 : ∀ ρ', P.ct ρ' → P'.ct ρ') (k4 : ∀ d, P.rt d → P'.rt d) : Ss X T ρ rest P' :=
  pss_imp h fun D σ H ⟨Hs0, Hs, H0, en, q1, q2, q3, q4⟩ => ⟨Hs0, Hs, H0, en, fun ρ' σ' H0' H' m => q1 ρ' σ' H0' H' (k1 _ m), fun ρ' σ' H0' H' m => q2 ρ' σ' H0' H' (k2 _ m), fun ρ' σ' H0' H' m => q3 ρ' σ' H0' H' (k3 _ m), fun d v H0' H' m => q4 d v H0' H' (k4 _ m)⟩
theorem st_ret (h : Ev X T ρ e d) (hd : P.rt d) : St1 X T ρ (.Return (some e) pos) P :=
  ps_imp (ps_ret h) fun D σ H ⟨Hs0, Hs, H0, en, _, _, _, k⟩ => ⟨Hs0, Hs, H0, en, fun v H0' H' y q => k d v _ _ hd (en.x.trans y) q⟩
theorem ss_ret (h : Ev X T ρ e d) (hd : P.rt d) : Ss X T ρ (.Return (some e) pos :: rest) P := ss_stop (st_ret h hd)
theorem st_set {x : Str} (i : Nat) (hN : X.N.Nodup) (h : Ev X T ρ e d) (hP : P.nx (ρ.set i (.dat d))) (hi : X.N[i]? = some x := by rfl) (hx : Loc X.env.scope x := by first | exact Or.inl rfl | exact Or.inr rfl)
    (hs : swapsWith e (some (.Name x p)) pos.line X.env = pure false := by rfl) (hf : X.fn x = true ∨ X.env.scope.names.lookup x = some .local := by first | exact .inl rfl | exact .inr rfl) : St1 X T ρ (.Assign [.Name x p] e pos) P :=
  ps_imp (ps_set hN hi hx h hs hf) fun D σ H ⟨Hs0, Hs, H0, en, k, _⟩ => ⟨Hs0, Hs, H0, en, fun v H0' H' y q => k _ _ _ _ hP y.f ((en.mono y).set q)⟩
theorem ss_set {x : Str} (i : Nat) (hN : X.N.Nodup) (h : Ev X T ρ e d) (hr : Ss X T (ρ.set i (.dat d)) rest P) (hi : X.N[i]? = some x := by rfl) (hx : Loc X.env.scope x := by first | exact Or.inl rfl | exact Or.inr rfl)
    (hs : swapsWith e (some (.Name x p)) pos.line X.env = pure false := by rfl) (hf : X.fn x = true ∨ X.env.scope.names.lookup x = some .local := by first | exact .inl rfl | exact .inr rfl) : Ss X T ρ (.Assign [.Name x p] e pos :: rest) P :=
  ss_then (st_set i hN h rfl hi hx hs hf) hr
theorem st_setOwn {x : Str} (i : Nat) (hN : X.N.Nodup) (h : Ef X T ρ e ds) (hP : P.nx (ρ.set i (.own ds))) (hi : X.N[i]? = some x := by rfl) (hx : Loc X.env.scope x := by first | exact Or.inl rfl | exact Or.inr rfl)
    (hs : swapsWith e (some (.Name x p)) pos.line X.env = pure false := by rfl) (hf : X.fn x = true ∨ X.env.scope.names.lookup x = some .local := by first | exact .inl rfl | exact .inr rfl) : St1 X T ρ (.Assign [.Name x p] e pos) P :=
  ps_imp (ps_set hN hi hx h hs hf) fun D σ H ⟨Hs0, Hs, H0, en, k, _⟩ => ⟨Hs0, Hs, H0, en, fun a vs H0' H' y q1 q2 q3 q4 => k _ _ _ _ hP y.f (en.setOwn y q1 q2 q3 q4)⟩
theorem ss_setOwn {x : Str} (i : Nat) (hN : X.N.Nodup) (h : Ef X T ρ e ds) (hr : Ss X T (ρ.set i (.own ds)) rest P) (hi : X.N[i]? = some x := by rfl) (hx : Loc X.env.scope x := by first | exact Or.inl rfl | exact Or.inr rfl)
    (hs : swapsWith e (some (.Name x p)) pos.line X.env = pure false := by rfl) (hf : X.fn x = true ∨ X.env.scope.names.lookup x = some .local := by first | exact .inl rfl | exact .inr rfl) : Ss X T ρ (.Assign [.Name x p] e pos :: rest) P :=
  ss_then (st_setOwn i hN h rfl hi hx hs hf) hr
/-! a comprehension stored in a local name of its own line -/
section
variable {α : Type} {elt : Expr} {ifs : List Expr} {scope : Scope} {js : List Nat} {tgt : PyData → List Sl → Option (List Sl)} {xs : List α} {emb : α → PyData} {keep : α → Bool} {val : α → PyData} {ρx : α → List Sl}
theorem st_setLc {x : Str} (i : Nat) (own : List (Str × Nat)) (hc : X.calm = true) (hN : X.N.Nodup) (ok : BlkOk X.N X.env.scope scope own) (hi : Ei X T ρ tg iter (xs.map emb)) (hz : xs.length < sizeLine)
    (hg : ∀ (s : Shared) (H : Hp) (C : Addr) (cl : List (Str × Addr)) (fp : List Addr), Eg (X.blk s H scope (compEnvC scope cl C X.env) fp) T tg js tgt) (hjs : ∀ j ∈ js, j ∈ own.map (·.2)) (hx : ∀ x ∈ xs, tgt (emb x) (wipeR ρ (own.map (·.2))) = some (ρx x))
    (ht : ∀ (s : Shared) (H : Hp) (C : Addr) (cl : List (Str × Addr)) (fp : List Addr), ∀ x ∈ xs, Ets (X.blk s H scope (compEnvC scope cl C X.env) fp) T (ρx x) ifs (keep x))
    (he : ∀ (s : Shared) (H : Hp) (C : Addr) (cl : List (Str × Addr)) (fp : List Addr), ∀ x ∈ xs, keep x = true → Ev (X.blk s H scope (compEnvC scope cl C X.env) fp) T (ρx x) elt (val x))
    (hy : X.N[i]? = some x := by rfl) (hyl : X.env.scope.names.lookup x = some .local := by rfl) (hsw : swapsWith (.ListComp elt [⟨tg, iter, ifs, 0⟩] scope pos) (some (.Name x p)) tpos.line X.env = pure true := by exact sw_true rfl rfl rfl (by decide +kernel))
    (hs : ∀ x, foldedSetIterable iter X.env x = pure x := by intro _; rfl) : ∃ te : TE, PS X (.Assign [.Name x p] (.ListComp elt [⟨tg, iter, ifs, 0⟩] scope pos) tpos) (tAsg te (gName i)) ∧ ∀ σ H Q, tF X.K T ρ ((xs.filter keep).map val) σ H Q → te σ H Q :=
  ⟨_, ps_setLc (g := tG X.K T js tgt) (tt := ttX X.K T xs keep ρx) (te := teX X.K T xs keep val ρx) hc hN hy hyl hsw hi ok hg (fun s H C cl fp => ⟨fun pins s1 σ H1 Q I ⟨x, hx, q⟩ => (ht s H C cl fp x hx).run pins s1 σ H1 Q I q⟩) (fun s H C cl fp => ⟨fun pins s1 σ H1 Q I ⟨x, hx, hk, q⟩ => (he s H C cl fp x hx hk).run pins s1 σ H1 Q I q⟩) hs,
    fun σ H Q h => lc_read hz hjs hx σ H Q h⟩
theorem lc_own {i : Nat} {x : Str} (h : ∃ te : TE, PS X (.Assign [.Name x p] e tpos) (tAsg te (gName i)) ∧ ∀ σ H Q, tF X.K T ρ ds σ H Q → te σ H Q) (hP : P.nx (ρ.set i (.own ds))) : St1 X T ρ (.Assign [.Name x p] e tpos) P := by
  obtain ⟨te, h1, h2⟩ := h
  exact ps_imp h1 fun D σ H ⟨Hs0, Hs, H0, en, k, _⟩ => h2 _ _ _ ⟨Hs0, Hs, H0, en, fun a vs H0' H' y q1 q2 q3 q4 => k _ _ _ _ hP y.f (en.setOwn y q1 q2 q3 q4)⟩
theorem lc_dat {i : Nat} {x : Str} (h : ∃ te : TE, PS X (.Assign [.Name x p] e tpos) (tAsg te (gName i)) ∧ ∀ σ H Q, tF X.K T ρ ds σ H Q → te σ H Q) (hP : P.nx (ρ.set i (.dat (.list ds)))) : St1 X T ρ (.Assign [.Name x p] e tpos) P := by
  obtain ⟨te, h1, h2⟩ := h
  exact ps_imp h1 fun D σ H ⟨Hs0, Hs, H0, en, k, _⟩ => h2 _ _ _ ⟨Hs0, Hs, H0, en, fun a vs H0' H' y q1 q2 q3 q4 => by
    have y' := Wx.freeze y.w y q2 q1 (fun _ z => by cases z) q3
    exact k _ _ _ _ hP y'.f ((en.mono y').set (.lst upd_same (q4.mono (sub_upd q2))))⟩
end
/-! ### if -/
theorem st_if {x : Bool} (hc : Et X T ρ c x) (h1 : x = true → Ss X T ρ body P) (h2 : x = false → Ss X T ρ orelse P) : St1 X T ρ (.If c body orelse pos) P := by
  cases x with
  | true => exact ps_imp (ps_if hc (h1 rfl) pss_never) fun D σ H ⟨Hs0, Hs, H0, en, k1, k2, k3, k4⟩ => ⟨Hs0, Hs, H0, en, fun H0' H' y => iteT ⟨Hs0, Hs, H0', en.mono y, fun ρ' σ' H2 H2' m s => k1 ρ' σ' H2 H2' m (sub_trans y.f s), fun ρ' σ' H2 H2' m s => k2 ρ' σ' H2 H2' m (sub_trans y.f s), fun ρ' σ' H2 H2' m s => k3 ρ' σ' H2 H2' m (sub_trans y.f s), k4⟩⟩
  | false => exact ps_imp (ps_if hc pss_never (h2 rfl)) fun D σ H ⟨Hs0, Hs, H0, en, k1, k2, k3, k4⟩ => ⟨Hs0, Hs, H0, en, fun H0' H' y => iteF ⟨Hs0, Hs, H0', en.mono y, fun ρ' σ' H2 H2' m s => k1 ρ' σ' H2 H2' m (sub_trans y.f s), fun ρ' σ' H2 H2' m s => k2 ρ' σ' H2 H2' m (sub_trans y.f s), fun ρ' σ' H2 H2' m s => k3 ρ' σ' H2 H2' m (sub_trans y.f s), k4⟩⟩
/-- an if whose body always leaves, then the rest -/
theorem ss_ifRet {x : Bool} (hc : Et X T ρ c x) (h1 : x = true → Ss X T ρ body { P with nx := fun _ => False }) (h2 : x = false → Ss X T ρ rest P) : Ss X T ρ (.If c body [] pos :: rest) P :=
  ss_cons (M := fun ρ' => x = false ∧ ρ' = ρ) (st_if hc (fun e => ss_weak (h1 e) (fun _ z => z.elim) (fun _ z => z) (fun _ z => z) fun _ z => z) fun e => ss_nil ⟨e, rfl⟩) fun ρ' ⟨e, e'⟩ => by subst e'; exact h2 e
/-- an if, both ways to one state -/
theorem ss_if {x : Bool} {ρ1 : List Sl} (hc : Et X T ρ c x) (h1 : x = true → Ss X T ρ body { P with nx := fun ρ' => ρ' = ρ1 }) (h2 : x = false → Ss X T ρ orelse { P with nx := fun ρ' => ρ' = ρ1 }) (h3 : Ss X T ρ1 rest P) : Ss X T ρ (.If c body orelse pos :: rest) P :=
  ss_then (st_if hc h1 h2) h3
/-! ### targets that unpack -/
theorem st_pair {x y : Str} {kk : Nat} (i j : Nat) (hc : X.calm = true) (hN : X.N.Nodup) (h : Ev X T ρ e (.tuple [d1, d2])) (hP : P.nx ((ρ.set i (.dat d1)).set j (.dat d2))) (hi : X.N[i]? = some x := by rfl) (hx : Loc X.env.scope x := by first | exact Or.inl rfl | exact Or.inr rfl) (hf : X.fn x = true ∨ X.env.scope.names.lookup x = some .local := by first | exact .inl rfl | exact .inr rfl)
    (hj : X.N[j]? = some y := by rfl) (hy : Loc X.env.scope y := by first | exact Or.inl rfl | exact Or.inr rfl) (hf2 : X.fn y = true ∨ X.env.scope.names.lookup y = some .local := by first | exact .inl rfl | exact .inr rfl)
    (hs : swapsWithSole [.Tuple [.Name x p, .Name y p2] kk tpos] e pos.line X.env = pure false := by rfl) (hw : swappedStores [.Tuple [.Name x p, .Name y p2] kk tpos] e X.env = pure none := by rfl)
    (h1 : (assignEach [.Tuple [.Name x p, .Name y p2] kk tpos] X.env).map (·.2) = [assign (.Tuple [.Name x p, .Name y p2] kk tpos) X.env] := by rfl) : St1 X T ρ (.Assign [.Tuple [.Name x p, .Name y p2] kk tpos] e pos) P :=
  ps_imp (ps_asg h (eg_pair (T := T) i j hc hN hi hx hf hj hy hf2) hs hw h1) fun D σ H ⟨Hs0, Hs, H0, en, k, _⟩ => ⟨Hs0, Hs, H0, en, fun v H0' H' y q => ⟨_, _, _, _, _, _, en.mono y, q, rfl, fun σ' en' _ => k _ _ _ _ hP y.f en'⟩⟩
/-- a, b = e, f -/
theorem st_par {x y : Str} {kk k2 : Nat} {pt2 : Pos} (i j : Nat) (hc : X.calm = true) (hN : X.N.Nodup) (ha : Ev X T ρ a d1) (hb : Ev X T ρ b d2) (hij : i ≠ j) (hP : P.nx ((ρ.set i (.dat d1)).set j (.dat d2))) (hi : X.N[i]? = some x := by rfl) (hj : X.N[j]? = some y := by rfl)
    (hx : X.env.scope.names.lookup x = some .local := by rfl) (hy : X.env.scope.names.lookup y = some .local := by rfl)
    (hw : swappedStores [.Tuple [.Name x p, .Name y p2] kk tpos] (.Tuple [a, b] k2 pt2) X.env = pure (some [x, y]) := by rfl)
    (hs : swapsWithSole [.Tuple [.Name x p, .Name y p2] kk tpos] (.Tuple [a, b] k2 pt2) pos.line X.env = pure false := by rfl)
    (hs1 : starEach [a, b] X.env = (false, eval a X.env) :: starEach [b] X.env := by rfl) (hs2 : starEach [b] X.env = (false, eval b X.env) :: starEach [] X.env := by rfl) : St1 X T ρ (.Assign [.Tuple [.Name x p, .Name y p2] kk tpos] (.Tuple [a, b] k2 pt2) pos) P :=
  ps_imp (ps_par hc hN hi hj hij hx hy (ea_cons ha (ea_cons hb ea_nil hs2) hs1) hw hs) fun D σ H ⟨Hs0, Hs, H0, en, k, _⟩ => ⟨Hs0, Hs, H0, en, fun vs H0' H' y q => by
    have q := AdAll.dats (ds := [d1, d2]) q
    cases q with
    | cons q1 q2 =>
      cases q2 with
      | cons q2 q3 =>
        cases q3
        exact ⟨_, _, rfl, k _ _ _ _ hP y.f (((en.mono y).set q1).set q2)⟩⟩
/-! ### loops -/
theorem pass_nox {Y : Cx} : PassesOwn (model Y.nox.prog Y.nox.w) Y.nox.A Y.nox.env Y.nox.xe := PassesOwn.never
theorem st_for {js : List Nat} {tgt : PyData → List Sl → Option (List Sl)} (hp : PassesOwn (model X.prog X.w) X.A X.env X.xe) (hc : X.calm = true) (hi : Ei X T ρ tg iter ys) (hg : Eg X T tg js tgt) (Pv : Nat → List Sl → Prop) (h0 : Pv 0 ρ)
    (hb : ∀ i d ρ1, ys[i]? = some d → Pv i ρ1 → ∃ ρ2, tgt d ρ1 = some ρ2 ∧ Ss X T ρ2 body { P with nx := Pv (i + 1), ct := Pv (i + 1), bk := P.nx }) (hd : ∀ ρ', Pv ys.length ρ' → P.nx ρ')
    (hs : ∀ x, foldedSetIterable iter X.env x = pure x := by intro _; rfl) : St1 X T ρ (.For tg iter body [] pos) P := by
  refine ps_imp (ps_for (tb := fun D σ H => ∃ i d ρ1 ρ2, ys[i]? = some d ∧ Pv i ρ1 ∧ tgt d ρ1 = some ρ2 ∧ tS X.K T ρ2 { P with nx := Pv (i + 1), ct := Pv (i + 1), bk := P.nx } D σ H) hp hc hi hg
    ⟨fun pins s σ H D I ⟨i, d, ρ1, ρ2, q1, q2, q3, q⟩ => by
      obtain ⟨ρ2', e, h⟩ := hb i d ρ1 q1 q2
      rw [q3] at e; cases e
      exact h.run pins s σ H D I q⟩ hs) fun D σ H ⟨Hs0, Hs, H0, en, k1, k2, k3, k4⟩ => ⟨Hs0, Hs, H0, en, fun J Hb0 Hb yb its => ?_⟩
  obtain ⟨G, Y, W, hG, hY⟩ := its
  refine for_it (g := tG X.K T js tgt) (tb := fun D σ H => ∃ i d ρ1 ρ2, ys[i]? = some d ∧ Pv i ρ1 ∧ tgt d ρ1 = some ρ2 ∧ tS X.K T ρ2 { P with nx := Pv (i + 1), ct := Pv (i + 1), bk := P.nx } D σ H) W (fun i σ' H' => ∃ ρ' H0', Pv i ρ' ∧ Sub Hb0 H0' ∧ En X.K T Hs0 Hs H0' H' σ' ρ') ⟨ρ, Hb0, h0, sub_refl _, en.mono yb⟩ (fun i σ' H' _ ⟨ρ', H0', _, s, e⟩ => hG _ _ e.w s) (fun i v σ' H1 H2 hi' ⟨ρ', H0', p1, s1, e1⟩ yv => ?_) fun σ' H' ⟨ρ', H0', p1, s1, e1⟩ => k1 ρ' σ' H0' H' (hd _ p1) (sub_trans yb.f s1) e1
  obtain ⟨H02, d, y2, q1, q2⟩ := hY i H0' H1 v H2 hi' e1.w s1 yv
  obtain ⟨ρ2, q3, _⟩ := hb i d ρ' q1 p1
  refine ⟨_, _, _, _, _, _, e1.mono y2, q2, q3, fun σ2 e2 _ => ⟨i, d, ρ', ρ2, q1, p1, q3, Hs0, Hs, H02, e2, fun ρ3 σ3 H3 H3' m s e => ⟨ρ3, H3, m, sub_trans (sub_trans s1 y2.f) s, e⟩, fun ρ3 σ3 H3 H3' m s e => k1 ρ3 σ3 H3 H3' m (sub_trans (sub_trans (sub_trans yb.f s1) y2.f) s) e, fun ρ3 σ3 H3 H3' m s e => ⟨ρ3, H3, m, sub_trans (sub_trans s1 y2.f) s, e⟩, k4⟩⟩
theorem st_while {cnd : Nat → List Sl → Bool} (hp : PassesOwn (model X.prog X.w) X.A X.env X.xe) (W : Nat → List Sl → Prop) {m0 : Nat} (h0 : W m0 ρ) (hc : ∀ m ρ', W m ρ' → Et X T ρ' c (cnd m ρ'))
    (hb : ∀ m ρ', W m ρ' → cnd m ρ' = true → Ss X T ρ' body { P with nx := fun ρ2 => ∃ m', m' < m ∧ W m' ρ2, ct := fun ρ2 => ∃ m', m' < m ∧ W m' ρ2, bk := P.nx }) (hd : ∀ m ρ', W m ρ' → cnd m ρ' = false → P.nx ρ') : St1 X T ρ (.While c body [] pos) P := by
  refine ps_imp (ps_while (tc := fun σ H Q => ∃ m ρ', W m ρ' ∧ tT X.K T ρ' (cnd m ρ') σ H Q) (tb := fun D σ H => ∃ m ρ', W m ρ' ∧ cnd m ρ' = true ∧ tS X.K T ρ' { P with nx := fun ρ2 => ∃ m', m' < m ∧ W m' ρ2, ct := fun ρ2 => ∃ m', m' < m ∧ W m' ρ2, bk := P.nx } D σ H) hp
    ⟨fun pins s σ H Q I ⟨m, ρ', w, q⟩ => (hc m ρ' w).run pins s σ H Q I q⟩ ⟨fun pins s σ H D I ⟨m, ρ', w, e, q⟩ => (hb m ρ' w e).run pins s σ H D I q⟩) fun D σ H ⟨Hs0, Hs, H0, en, k1, k2, k3, k4⟩ => ?_
  refine ⟨fun m σ' H' => ∃ ρ' H0', W m ρ' ∧ Sub H0 H0' ∧ En X.K T Hs0 Hs H0' H' σ' ρ', ⟨m0, ρ, H0, h0, sub_refl _, en⟩, fun m σ' H' ⟨ρ', H0', w, s, e⟩ => ⟨m, ρ', w, Hs0, Hs, H0', e, fun H02 H2 y2 => ?_⟩⟩
  cases q : cnd m ρ' with
  | false => exact iteF (k1 ρ' σ' _ _ (hd m ρ' w q) (sub_trans s y2.f) (e.mono y2))
  | true =>
    refine iteT ⟨fun σ2 H2' => ∃ m', m' < m ∧ ∃ ρ2 H3, W m' ρ2 ∧ Sub H0 H3 ∧ En X.K T Hs0 Hs H3 H2' σ2 ρ2, fun σ2 H2' z => z, m, ρ', w, q, Hs0, Hs, H02, e.mono y2, fun ρ3 σ3 H3 H3' ⟨m', hm, w'⟩ s3 e3 => ⟨m', hm, ρ3, H3, w', sub_trans (sub_trans s y2.f) s3, e3⟩, fun ρ3 σ3 H3 H3' z s3 e3 => k1 ρ3 σ3 H3 H3' z (sub_trans (sub_trans s y2.f) s3) e3, fun ρ3 σ3 H3 H3' ⟨m', hm, w'⟩ s3 e3 => ⟨m', hm, ρ3, H3, w', sub_trans (sub_trans s y2.f) s3, e3⟩, k4⟩
/-! ### lists of one's own -/
theorem sql_own {H : Hp} {a : Addr} {vs : List V} {K : PySem.W.Frag} (h : H a = some (.lst vs)) : tyV K "list" (.ref a) H := .inl ⟨rfl, _, SqL.of h⟩
theorem st_append {x : Str} (i : Nat) (hr : ρ[i]? = some (.own ds)) (h : Ev X T ρ e d) (hz : ds.length < sizeLine) (hP : P.nx (ρ.set i (.own (ds ++ [d])))) (hN : X.N[i]? = some x := by rfl) (hv : Vis X.env.scope x := by first | exact Or.inl rfl | exact Or.inr (Or.inl rfl) | exact Or.inr (Or.inr rfl))
    (hdb : (x == ("__debug__" : Str)) = false := by decide) (hcd : (x == ("__classdict__" : Str)) = false := by decide)
    (hbase : attributeBase (.Name x p) "append" X.env (eval (.Name x p) X.env) = eval (.Name x p) X.env := by rfl)
    (hfew : ((backTo pos (starEach [e] X.env)).all (fun x => !x.1) && (backToKw pos (keywordEach [] X.env)).all (fun x => x.1.isSome) && decide ([e].length + ([] : List Keyword).length + (if ([] : List Keyword).isEmpty then 0 else 1) < 30)) = true := by rfl)
    (hline : (p2.endLine == pos.line) = true := by rfl) (hs : starEach [e] X.env = (false, eval e X.env) :: starEach [] X.env := by rfl) (hplain : (backTo pos (starEach [] X.env)).any (·.1) = false := by rfl) :
    St1 X T ρ (.Expr (.Call (.Attribute (.Name x p) "append" p2) [e] [] pos) tpos) P :=
  ps_imp (ps_expr (pe_bm PySem.F.plainAttrs_list PySem.F.slot_list_append PySem.F.type_list_append mt_append (pe_var hN hv hdb hcd) (ea_cons h ea_nil hs) hbase hfew hline hs hplain)) fun D σ H ⟨Hs0, Hs, H0, en, k, _⟩ => by
    obtain ⟨ad, vs, h1, h2, h3, h4, h5⟩ := en.getOwn hr
    refine ⟨_, h1, sql_own h2, Hs0, Hs, H0, en, fun us H0' H' y q => ?_⟩
    obtain ⟨v, rfl, q'⟩ := ad1 q
    have en' := en.mono y
    have h2' := y.e _ _ h2 (fun _ z => by cases z)
    exact ⟨ad, vs, v, rfl, rfl, h2', by rw [h5.len]; exact hz, k _ _ _ _ hP y.f (en'.write hr h1 ((h5.mono y.f).append (.cons q' .nil)))⟩
theorem st_extend {x : Str} (i : Nat) (hr : ρ[i]? = some (.own ds)) (h : Ev X T ρ e (.list es)) (hz : ds.length + es.length ≤ sizeLine) (hP : P.nx (ρ.set i (.own (ds ++ es)))) (hN : X.N[i]? = some x := by rfl) (hv : Vis X.env.scope x := by first | exact Or.inl rfl | exact Or.inr (Or.inl rfl) | exact Or.inr (Or.inr rfl))
    (hdb : (x == ("__debug__" : Str)) = false := by decide) (hcd : (x == ("__classdict__" : Str)) = false := by decide)
    (hbase : attributeBase (.Name x p) "extend" X.env (eval (.Name x p) X.env) = eval (.Name x p) X.env := by rfl)
    (hfew : ((backTo pos (starEach [e] X.env)).all (fun x => !x.1) && (backToKw pos (keywordEach [] X.env)).all (fun x => x.1.isSome) && decide ([e].length + ([] : List Keyword).length + (if ([] : List Keyword).isEmpty then 0 else 1) < 30)) = true := by rfl)
    (hline : (p2.endLine == pos.line) = true := by rfl) (hs : starEach [e] X.env = (false, eval e X.env) :: starEach [] X.env := by rfl) (hplain : (backTo pos (starEach [] X.env)).any (·.1) = false := by rfl) :
    St1 X T ρ (.Expr (.Call (.Attribute (.Name x p) "extend" p2) [e] [] pos) tpos) P :=
  ps_imp (ps_expr (pe_bm PySem.F.plainAttrs_list PySem.F.slot_list_extend PySem.F.type_list_extend mt_extend (pe_var hN hv hdb hcd) (ea_cons h ea_nil hs) hbase hfew hline hs hplain)) fun D σ H ⟨Hs0, Hs, H0, en, k, _⟩ => by
    obtain ⟨ad, vs, h1, h2, h3, h4, h5⟩ := en.getOwn hr
    refine ⟨_, h1, sql_own h2, Hs0, Hs, H0, en, fun us H0' H' y q => ?_⟩
    obtain ⟨v, rfl, q'⟩ := ad1 q
    have en' := en.mono y
    have h2' := y.e _ _ h2 (fun _ z => by cases z)
    cases q' with
    | lst q1 q2 =>
      exact ⟨ad, _, vs, _, rfl, rfl, h2', y.w.sub _ _ q1, by rw [h5.len, q2.len]; exact hz, k _ _ _ _ hP y.f (en'.write hr h1 ((h5.mono y.f).append q2))⟩
/-- xs[i] = e -/
theorem st_setIx {x : Str} {o : Int} {j : Nat} (i : Nat) (hr : ρ[i]? = some (.own ds)) (h : Ev X T ρ e d) (hb : Ev X T ρ b (.int o)) (hj : ixN ds.length o = some j) (hP : P.nx (ρ.set i (.own (ds.set j d)))) (hN : X.N[i]? = some x := by rfl) (hv : Vis X.env.scope x := by first | exact Or.inl rfl | exact Or.inr (Or.inl rfl) | exact Or.inr (Or.inr rfl))
    (hdb : (x == ("__debug__" : Str)) = false := by decide) (hcd : (x == ("__classdict__" : Str)) = false := by decide)
    (hs : swapsWithSole [.Subscript (.Name x p) b p2] e pos.line X.env = pure false := by rfl) (hw : swappedStores [.Subscript (.Name x p) b p2] e X.env = pure none := by rfl)
    (h1 : (assignEach [.Subscript (.Name x p) b p2] X.env).map (·.2) = [assign (.Subscript (.Name x p) b p2) X.env] := by rfl)
    (ha : ∀ v : Value, assign (.Subscript (.Name x p) b p2) X.env v = (do let ov ← holding [v] (eval (.Name x p) X.env); let iv ← holding [v, ov] (eval b X.env); standAt p2; holding [v, ov, iv] (setItem ov iv v); release [v, ov, iv] []) := by intro _; rfl) :
    St1 X T ρ (.Assign [.Subscript (.Name x p) b p2] e pos) P :=
  ps_imp (ps_asg h (pg_sub (pe_var hN hv hdb hcd) hb set_list ha) hs hw h1) fun D σ H ⟨Hs0, Hs, H0, en, k, _⟩ => ⟨Hs0, Hs, H0, en, fun v H0' H' y q => by
    obtain ⟨ad, vs, h1, h2, h3, h4, h5⟩ := en.getOwn hr
    refine ⟨_, h1, Hs0, Hs, H0', en.mono y, fun u H02 H2 y2 q2 => ?_⟩
    cases q2
    have y3 := y.trans y2
    have h2' := y3.e _ _ h2 (fun _ z => by cases z)
    exact ⟨ad, vs, o, j, rfl, rfl, h2', by rw [h5.len]; exact hj, k _ _ _ _ hP y3.f ((en.mono y3).write hr h1 ((h5.mono y3.f).set j (q.mono y2.f)))⟩⟩
/-- an own list given out -/
theorem st_retOwn {x : Str} (i : Nat) (hr : ρ[i]? = some (.own ds)) (hd : P.rt (.list ds)) (hN : X.N[i]? = some x := by rfl) (hv : Vis X.env.scope x := by first | exact Or.inl rfl | exact Or.inr (Or.inl rfl) | exact Or.inr (Or.inr rfl))
    (hdb : (x == ("__debug__" : Str)) = false := by decide) (hcd : (x == ("__classdict__" : Str)) = false := by decide) : St1 X T ρ (.Return (some (.Name x p)) pos) P :=
  ps_imp (ps_ret (pe_var hN hv hdb hcd)) fun D σ H ⟨Hs0, Hs, H0, en, _, _, _, k⟩ => by
    obtain ⟨ad, vs, h1, h2, h3, h4, h5⟩ := en.getOwn hr
    exact ⟨_, h1, k _ _ _ _ hd (Wx.freeze en.w en.x h3 h2 (fun _ z => by cases z) h4) (.lst upd_same (h5.mono (sub_upd h3)))⟩
/-- x = y, y a list of its own: frozen, known by both names as data -/
theorem st_freeze {x z : Str} (i j : Nat) (hN : X.N.Nodup) (hr : ρ[j]? = some (.own ds)) (hP : P.nx ((ρ.set j (.dat (.list ds))).set i (.dat (.list ds)))) (hi : X.N[i]? = some x := by rfl) (hx : Loc X.env.scope x := by first | exact Or.inl rfl | exact Or.inr rfl)
    (hj : X.N[j]? = some z := by rfl) (hv : Vis X.env.scope z := by first | exact Or.inl rfl | exact Or.inr (Or.inl rfl) | exact Or.inr (Or.inr rfl)) (hdb : (z == ("__debug__" : Str)) = false := by decide) (hcd : (z == ("__classdict__" : Str)) = false := by decide)
    (hs : swapsWith (.Name z p2) (some (.Name x p)) pos.line X.env = pure false := by rfl) (hf : X.fn x = true ∨ X.env.scope.names.lookup x = some .local := by first | exact .inl rfl | exact .inr rfl) : St1 X T ρ (.Assign [.Name x p] (.Name z p2) pos) P :=
  ps_imp (ps_set hN hi hx (pe_var hj hv hdb hcd) hs hf) fun D σ H ⟨Hs0, Hs, H0, en, k, _⟩ => by
    obtain ⟨ad, vs, h1, h2, h3, h4, h5⟩ := en.getOwn hr
    have y := Wx.freeze en.w en.x h3 h2 (fun _ z => by cases z) h4
    have dd : Dd (upd H0 ad (.lst vs)) (.ref ad) (.list ds) := .lst upd_same (h5.mono (sub_upd h3))
    have en1 : En X.K T Hs0 Hs (upd H0 ad (.lst vs)) H σ (ρ.set j (.dat (.list ds))) := by
      refine ⟨y, fun m p hp => ?_, by rw [List.length_set]; exact en.l, fun m n a' ds' es' hmn r1 r2 r3 => ?_⟩
      · by_cases hm : j = m
        · subst hm
          rw [List.getElem?_set_self (lt_set hp)] at hp
          cases hp
          exact ⟨_, h1, .dat dd⟩
        · rw [List.getElem?_set_ne hm] at hp
          obtain ⟨o, q1, q2⟩ := en.s m p hp
          refine ⟨o, q1, ?_⟩
          cases q2 with
          | no => exact .no _
          | dat h => exact .dat (h.mono (sub_upd h3))
          | own g1 g2 g3 g4 =>
            refine .own g1 ?_ g3 (g4.mono (sub_upd h3))
            rw [upd_ne]
            · exact g2
            · intro z
              rw [z] at q1
              exact en.d m j ad _ _ (Ne.symm hm) hp hr q1 h1
          | scr h => exact .scr h
      · have nj : j ≠ m := fun z => by
          subst z
          rw [List.getElem?_set_self (lt_set r1)] at r1; cases r1
        have nk : j ≠ n := fun z => by
          subst z
          rw [List.getElem?_set_self (lt_set r2)] at r2; cases r2
        rw [List.getElem?_set_ne nj] at r1
        rw [List.getElem?_set_ne nk] at r2
        exact en.d m n a' ds' es' hmn r1 r2 r3
    exact ⟨_, h1, k _ _ _ _ hP (sub_upd h3) (en1.set dd)⟩
end
/-! ### defs -/
section
variable {P : Program} {w : World} {K : PySem.W.Frag} {mg : Str → Option Value} {base : Heap} {T : Tab}
theorem startN : ∀ (n : Nat), (List.replicate n (none : Option V)).length = n := fun n => List.length_replicate
theorem en_start {H0 H : Hp} {vs : List V} {ps : List Sl} (w : Wd T H0 H) (h : AdAll K H0 H vs ps) (n : Nat) : En K T H0 H H0 H (vs.map some ++ List.replicate n none) (ps ++ List.replicate n .no) := by
  have hl := h.len
  have get : ∀ {ps : List Sl} {vs : List V} {i : Nat} {p : Sl}, AdAll K H0 H vs ps → ps[i]? = some p → ∃ v, vs[i]? = some v ∧ Ad K H0 H v p := by
    intro ps vs i p h
    induction h generalizing i with
    | nil => intro e; simp at e
    | cons h1 h2 ih =>
      intro e
      cases i with
      | zero => simp at e; subst e; exact ⟨_, rfl, h1⟩
      | succ i => simpa using ih (by simpa using e)
  have cases_ : ∀ {i : Nat} {p : Sl}, (ps ++ List.replicate n .no)[i]? = some p → (∃ v, vs[i]? = some v ∧ (vs.map some ++ List.replicate n none)[i]? = some (some v) ∧ Ad K H0 H v p) ∨ (p = .no ∧ ∃ o, (vs.map some ++ List.replicate n none)[i]? = some o) := by
    intro i p e
    by_cases hi : i < ps.length
    · rw [List.getElem?_append_left hi] at e
      obtain ⟨v, q1, q2⟩ := get h e
      refine .inl ⟨v, q1, ?_, q2⟩
      rw [List.getElem?_append_left (by rw [List.length_map, hl]; exact hi), List.getElem?_map, q1]; rfl
    · rw [List.getElem?_append_right (by omega)] at e
      have hlt := (List.getElem?_eq_some_iff.mp e).1
      rw [List.length_replicate] at hlt
      rw [List.getElem?_replicate, if_pos hlt] at e
      cases e
      refine .inr ⟨rfl, none, ?_⟩
      rw [List.getElem?_append_right (by rw [List.length_map]; omega), List.getElem?_replicate, if_pos (by rw [List.length_map]; omega)]
  refine ⟨Wx.refl w, fun i p e => ?_, by simp [hl], fun i j a ds es _ h1 _ _ => ?_⟩
  · rcases cases_ e with ⟨v, _, q, a⟩ | ⟨rfl, o, q⟩
    · refine ⟨some v, q, ?_⟩
      cases a with
      | dat a => exact .dat a
      | scr a => exact .scr a
    · exact ⟨o, q, .no _⟩
  · rcases cases_ h1 with ⟨v, _, q, a⟩ | ⟨z, _⟩
    · cases a
    · cases z
theorem fo_mk {x qual : Str} {st : Stmt} {f : Addr} {fd : FuncData} {N ps : List Str} {k : Nat} {Sem : List Sl → PyData → Prop} (F : Fun K x qual st f fd) (S : FnScope N ps (defScope st))
    (hbody : ∀ (cdv : Value) (A : Around) (outer : List Env) (s : Shared) (H : Hp) (E : XK) (sl : List Sl) (d : PyData), Room k (A.deeper (envOfC qual (defScope st) s.heap.objs.size f cdv)) → sl.length = ps.length → Sem sl d →
      Ss (cxOf CX0 P w K mg base N qual (defScope st) f cdv A outer s H E).nox T (sl ++ List.replicate (N.length - ps.length) .no) (defBody st) { nx := fun _ => d = .none, rt := fun d' => d' = d }) :
    FnOk P w K mg base CX0 (k + 1) f fd ps (spD K T ps.length Sem) := by
  refine F.ok S (fun vs H Q E h => ?_) (fun cdv A outer s H vs Q E hr h => ?_)
  · obtain ⟨H0, sl, d, w', h1, h2, _⟩ := h
    rw [h1.len, h2]
  · obtain ⟨H0, sl, d, w', h1, h2, h3, h4⟩ := h
    refine ⟨_, hbody cdv A outer s H E sl d hr h2 h3, H0, H, H0, ?_, fun ρ' σ' H0' H' z s en => ?_, fun _ _ _ _ z => z.elim, fun _ _ _ _ z => z.elim, fun d' v H0' H' z y q => ?_⟩
    · show En _ _ _ _ _ _ (vs.map some ++ List.replicate (N.length - vs.length) none) _
      rw [h1.len, h2]
      exact en_start w' h1 _
    · have z : d = .none := z
      subst z
      exact h4 .non H0' H' en.x .non
    · have z : d' = d := z
      subst z
      exact h4 v H0' H' y q
theorem df_mk {x qual : Str} {st : Stmt} {f : Addr} {fd : FuncData} {N ps : List Str} {k : Nat} {Sem : List Sl → PyData → Prop} (F : Fun K x qual st f fd) (S : FnScope N ps (defScope st)) (hmg : mg x = some (.ref f)) (hb : Binds K fd ps [])
    (hbody : ∀ (cdv : Value) (A : Around) (outer : List Env) (s : Shared) (H : Hp) (E : XK) (sl : List Sl) (d : PyData), Room k (A.deeper (envOfC qual (defScope st) s.heap.objs.size f cdv)) → sl.length = ps.length → Sem sl d →
      Ss (cxOf CX0 P w K mg base N qual (defScope st) f cdv A outer s H E).nox T (sl ++ List.replicate (N.length - ps.length) .no) (defBody st) { nx := fun _ => d = .none, rt := fun d' => d' = d }) :
    Df P w K mg base T (k + 1) x ps.length Sem := ⟨f, fd, ps, fo_mk F S hbody, hmg, F.kp, hb⟩
theorem Df.mono {j k n : Nat} {x : Str} {Sem : List Sl → PyData → Prop} (h : Df P w K mg base T j x n Sem) (hjk : j ≤ k) : Df P w K mg base T k x n Sem := by
  obtain ⟨f, fd, qs, F, h1, h2, h3⟩ := h
  exact ⟨f, fd, qs, F.mono hjk, h1, h2, h3⟩
end
end Rw
namespace Rw
open PySem PySem.Spec PyProof.Rows L2
abbrev rowT (r : List Int) : PyData := .tuple (r.map .int)
abbrev rowL (r : List Int) : PyData := .list (r.map .int)
abbrev lotT (rs : List (List Int)) : PyData := .tuple (rs.map rowT)
abbrev lotL (rs : List (List Int)) : PyData := .list (rs.map rowT)
abbrev rowsL (rs : List (List Int)) : PyData := .list (rs.map rowL)
def hid (H : Hp) (a : Addr) : Hp := fun b => if b = a then none else H b
theorem hid_ne {H : Hp} {a b : Addr} (h : b ≠ a) : hid H a b = H b := if_neg h
theorem hid_same {H : Hp} {a : Addr} : hid H a a = none := if_pos rfl
/-- data that no list lies in -/
def Flat (d : PyData) : Prop := ∀ (H : Hp) (v : V) (a : Addr) (vs : List V), H a = some (.lst vs) → Dd H v d → Dd (hid H a) v d
theorem flat_int {i : Int} : Flat (.int i) := fun H v a vs _ q => by cases q; exact .int _
theorem flat_bool {i : Bool} : Flat (.bool i) := fun H v a vs _ q => by cases q; exact .bl _
theorem flat_none : Flat .none := fun H v a vs _ q => by cases q; exact .non
theorem ints_any {H H' : Hp} {ns : List Int} {vs : List V} (h : DdAll H vs (ns.map .int)) : DdAll H' vs (ns.map .int) := by
  rw [h.ofInts]; exact DdAll.ints
theorem flat_row {r : List Int} : Flat (rowT r) := fun H v a vs h q => by
  cases q with
  | tup h1 h2 =>
    refine .tup ?_ (ints_any h2)
    rw [hid_ne]
    · exact h1
    · intro z; rw [z, h] at h1; cases h1
section
variable {X : Cx} {T : Tab} {ρ : List Sl} {a b c e tg iter : Expr} {pos p p2 tpos : Pos} {d d1 d2 d3 : PyData} {ds es ys : List PyData}
theorem En.freeze {K : PySem.W.Frag} {Hs0 Hs H0 H : Hp} {σ : L2.St} {j : Nat} {ad : Addr} {vs : List V} (en : En K T Hs0 Hs H0 H σ ρ) (hr : ρ[j]? = some (.own ds)) (h1 : σ[j]? = some (some (.ref ad))) (h2 : H ad = some (.lst vs)) (h3 : H0 ad = none) (h4 : Hs ad = none) (h5 : DdAll H0 vs ds) :
    En K T Hs0 Hs (upd H0 ad (.lst vs)) H σ (ρ.set j (.dat (.list ds))) := by
  have y := Wx.freeze en.w en.x h3 h2 (fun _ z => by cases z) h4
  have dd : Dd (upd H0 ad (.lst vs)) (.ref ad) (.list ds) := .lst upd_same (h5.mono (sub_upd h3))
  refine ⟨y, fun m p hp => ?_, by rw [List.length_set]; exact en.l, fun m n a' ds' es' hmn r1 r2 r3 => ?_⟩
  · by_cases hm : j = m
    · subst hm
      rw [List.getElem?_set_self (lt_set hp)] at hp
      cases hp
      exact ⟨_, h1, .dat dd⟩
    · rw [List.getElem?_set_ne hm] at hp
      obtain ⟨o, q1, q2⟩ := en.s m p hp
      refine ⟨o, q1, ?_⟩
      cases q2 with
      | no => exact .no _
      | dat h => exact .dat (h.mono (sub_upd h3))
      | own g1 g2 g3 g4 =>
        refine .own g1 ?_ g3 (g4.mono (sub_upd h3))
        rw [upd_ne]
        · exact g2
        · intro z
          rw [z] at q1
          exact en.d m j ad _ _ (Ne.symm hm) hp hr q1 h1
      | scr h => exact .scr h
  · have nj : j ≠ m := fun z => by
      subst z
      rw [List.getElem?_set_self (lt_set r1)] at r1; cases r1
    have nk : j ≠ n := fun z => by
      subst z
      rw [List.getElem?_set_self (lt_set r2)] at r2; cases r2
    rw [List.getElem?_set_ne nj] at r1
    rw [List.getElem?_set_ne nk] at r2
    exact en.d m n a' ds' es' hmn r1 r2 r3
/-- from the world in which the list at ad was frozen, back -/
theorem Wx.thaw {H0 H H0' H' : Hp} {ad : Addr} {vs : List V} (h3 : H0 ad = none) (h2 : H ad = some (.lst vs)) (y : Wx T (upd H0 ad (.lst vs)) H H0' H') : Wx T H0 H (hid H0' ad) H' := by
  refine ⟨⟨fun b o e => ?_, fun b ps e => ?_, y.w.tabs⟩, fun b o e => ?_, y.e, y.k, fun b o e k => ?_⟩
  · by_cases hb : b = ad
    · subst hb; rw [hid_same] at e; cases e
    · rw [hid_ne hb] at e; exact y.w.sub b o e
  · by_cases hb : b = ad
    · subst hb; rw [hid_same] at e; cases e
    · rw [hid_ne hb] at e; exact y.w.nt b ps e
  · have hb : b ≠ ad := fun z => by subst z; rw [h3] at e; cases e
    rw [hid_ne hb]
    exact y.f b o (by rw [upd_ne hb]; exact e)
  · by_cases hb : b = ad
    · subst hb; rw [hid_same] at e; cases e
    · rw [hid_ne hb] at e; exact y.n b o e (by rw [upd_ne hb]; exact k)
theorem ev_view (j : Nat) (hr : ρ[j]? = some (.own ds)) (h : Ev X T (ρ.set j (.dat (.list ds))) e d) (hf : Flat d) : Ev X T ρ e d :=
  pe_imp h fun σ H Q ⟨Hs0, Hs, H0, en, k⟩ => by
    obtain ⟨ad, vs, h1, h2, h3, h4, h5⟩ := en.getOwn hr
    refine ⟨Hs0, Hs, _, en.freeze hr h1 h2 h3 h4 h5, fun v H0' H' y q => k v _ _ (Wx.thaw h3 h2 y) (hf _ _ _ _ (y.f _ _ upd_same) q)⟩
theorem ef_view (j : Nat) (hr : ρ[j]? = some (.own ds)) (h : Ef X T (ρ.set j (.dat (.list ds))) e es) (hf : ∀ (H : Hp) (us : List V) (a : Addr) (vs : List V), H a = some (.lst vs) → DdAll H us es → DdAll (hid H a) us es) : Ef X T ρ e es :=
  pe_imp h fun σ H Q ⟨Hs0, Hs, H0, en, k⟩ => by
    obtain ⟨ad, vs, h1, h2, h3, h4, h5⟩ := en.getOwn hr
    refine ⟨Hs0, Hs, _, en.freeze hr h1 h2 h3 h4 h5, fun v us H0' H' y q1 q2 q3 q4 => k v us _ _ (Wx.thaw h3 h2 y) q1 ?_ q3 (hf _ _ _ _ (y.f _ _ upd_same) q4)⟩
    by_cases hv : v = ad
    · subst hv; exact hid_same
    · rw [hid_ne hv]; exact q2
theorem ef_viewI (j : Nat) {ns : List Int} (hr : ρ[j]? = some (.own ds)) (h : Ef X T (ρ.set j (.dat (.list ds))) e (ns.map .int)) : Ef X T ρ e (ns.map .int) := ef_view j hr h fun H us a vs _ q => ints_any q
theorem et_view {x : Bool} (j : Nat) (hr : ρ[j]? = some (.own ds)) (h : Et X T (ρ.set j (.dat (.list ds))) e x) : Et X T ρ e x :=
  pt_imp h fun σ H Q ⟨Hs0, Hs, H0, en, k⟩ => by
    obtain ⟨ad, vs, h1, h2, h3, h4, h5⟩ := en.getOwn hr
    exact ⟨Hs0, Hs, _, en.freeze hr h1 h2 h3 h4 h5, fun H0' H' y => k _ _ (Wx.thaw h3 h2 y)⟩
end
/-! ### the law's end, no tables -/
def semLaw (sl : List Sl) (d : PyData) : Prop := (∃ ns : List Int, sl = [.scr ns] ∧ ns.length ≤ 63) ∧ d = .bool true
theorem only_scr {K : PySem.W.Frag} {H : Hp} {a : Addr} {ns : List Int} (h : Only H) (hs : SqL K H a (ns.map V.int)) : ScrAt K H a ns := by
  rcases hs with (hs | ⟨o, hs⟩) | hs
  · rcases h a with z | ⟨o, xs, z⟩
    · rw [z] at hs; cases hs
    · rw [z] at hs; cases hs
  · exact .inl ⟨o, hs⟩
  · exact .inr hs
theorem law_sp {K : PySem.W.Frag} {H : Hp} {a : Addr} {ns : List Int} (hl : ns.length ≤ 63) (hO : Only H) (hS : SqL K H a (ns.map V.int)) : spD K [] 1 semLaw [.ref a] H (fun v _ => v = .bl true) fun _ _ _ => False :=
  ⟨fun _ => none, [.scr ns], .bool true, ⟨(fun _ _ h => by cases h), (fun _ _ h => by cases h), (fun _ h => by cases h)⟩, .cons (.scr (only_scr hO hS)) .nil, rfl, ⟨⟨ns, rfl, hl⟩, rfl⟩, fun v H0' H' _ q => by cases q; rfl⟩
/-! ### what the top has written -/
/-- the def x of the text stands in the written part -/
def DefIn (K : PySem.W.Frag) (x : Str) (st : Stmt) : Prop := ∃ (f : Addr) (oc : Value) (od an : Option Addr) (osl : Array (Option Value)) (kV doc pm cdv ct : Value), PySem.W.nsIn K mainGlobals x = some (some (.ref f)) ∧
  K.lookup f = some ⟨oc, od, .func (PySem.W.fnOf x x (defArgs st) (defBody st) (defScope st) .none kV doc pm an cdv ct), osl⟩ ∧ PySem.W.codeIn K cdv x = true ∧ PySem.W.keepIn K (.ref f) = true
theorem DefIn.mk {K : PySem.W.Frag} {x : Str} {st : Stmt} {f : Addr} {oc : Value} {od an : Option Addr} {osl : Array (Option Value)} {kV doc pm cdv ct : Value} (a : PySem.W.nsIn K mainGlobals x = some (some (.ref f)))
    (l : K.lookup f = some ⟨oc, od, .func (PySem.W.fnOf x x (defArgs st) (defBody st) (defScope st) .none kV doc pm an cdv ct), osl⟩) (c : PySem.W.codeIn K cdv x = true) (k : PySem.W.keepIn K (.ref f) = true) : DefIn K x st := ⟨f, oc, od, an, osl, kV, doc, pm, cdv, ct, a, l, c, k⟩
theorem DefIn.fn {K : PySem.W.Frag} {x : Str} {st : Stmt} {h : Heap} {mg : Str → Option Value} (d : DefIn K x st) (X : K.In h) (G : h.Ns mainGlobals mg) : ∃ f fd, Fun K x x st f fd ∧ mg x = some (.ref f) := by
  obtain ⟨f, oc, od, an, osl, kV, doc, pm, cdv, ct, a, l, c, k⟩ := d
  exact ⟨f, _, fun_mk l c k, PySem.W.mg_of X G a⟩
def BtIn (K : PySem.W.Frag) : Prop := PySem.W.nsIn K mainGlobals "len" = some none ∧ PySem.W.nsIn K mainGlobals "tuple" = some none ∧ PySem.W.nsIn K mainGlobals "list" = some none ∧ PySem.W.nsIn K mainGlobals "sum" = some none ∧
  PySem.W.nsIn K mainGlobals "all" = some none ∧ PySem.W.nsIn K mainGlobals "int" = some none ∧ PySem.W.nsIn K mainGlobals "bool" = some none ∧ PySem.W.nsIn K mainGlobals "abs" = some none ∧ PySem.W.nsIn K mainGlobals "isinstance" = some none ∧
  PySem.W.nsIn K mainGlobals "range" = some none ∧ PySem.W.nsIn K mainGlobals "zip" = some none ∧ PySem.W.nsIn K mainGlobals "enumerate" = some none ∧ PySem.W.nsIn K mainGlobals "reversed" = some none ∧ PySem.W.nsIn K mainGlobals "sorted" = some none ∧ PySem.W.nsIn K mainGlobals "min" = some none
theorem BtIn.bt {K : PySem.W.Frag} {h : Heap} {mg : Str → Option Value} (d : BtIn K) (X : K.In h) (G : h.Ns mainGlobals mg) : Bt mg := by
  obtain ⟨z1, z2, z3, z4, z5, z6, z7, z8, z9, z10, z11, z12, z13, z14, z15⟩ := d
  have m := fun {x : Str} (z : PySem.W.nsIn K mainGlobals x = some none) => PySem.W.mg_none_of X G z
  exact ⟨m z1, m z2, m z3, m z4, m z5, m z6, m z7, m z8, m z9, m z10, m z11, m z12, m z13, m z14, m z15⟩
/-! ### short words -/
def ix (r : List Int) (i : Int) : Int := r.getD i.toNat 0
theorem atI_map {α β : Type} {f : α → β} {r : List α} {i : Int} {z : α} (h0 : 0 ≤ i) (h : r[i.toNat]? = some z) : atI (r.map f) i = some (f z) := by
  have e : i = ((i.toNat : Nat) : Int) := by omega
  rw [e]
  refine atI_nat ?_
  rw [List.getElem?_map, h]; rfl
theorem atI_ix {r : List Int} {i : Int} (h0 : 0 ≤ i) (h1 : i < r.length) : atI (r.map PyData.int) i = some (.int (ix r i)) := by
  refine atI_map h0 ?_
  have hl : i.toNat < r.length := by omega
  unfold ix
  rw [List.getD_eq_getElem?_getD, List.getElem?_eq_getElem hl]; rfl
theorem rng_mem {lo : Int} {n : Nat} {x : Int} (h : x ∈ rng lo n) : lo ≤ x ∧ x < lo + n := by
  unfold rng at h
  obtain ⟨k, h1, h2⟩ := List.mem_map.mp h
  have := List.mem_range.mp h1
  omega
theorem rng_len {lo : Int} {n : Nat} : (rng lo n).length = n := by unfold rng; simp
section
variable {X : Cx} {T : Tab} {ρ : List Sl} {a b c e tg iter : Expr} {pos p p2 tpos : Pos} {d d1 d2 d3 : PyData} {ds es ys : List PyData}
variable {α β γ : Type} {elt : Expr} {ifs : List Expr} {scope : Scope} {js : List Nat} {tgt : PyData → List Sl → Option (List Sl)} {xs : List α} {emb : α → PyData} {keep : α → Bool} {val : α → PyData} {ρx : α → List Sl}
theorem ei_zipE {elts : List Expr} {kk : Nat} {as : List α} {bs : List β} {f : α → PyData} {g : β → PyData} (B : Bt X.mg) (hd : d1 = .list (as.map f) ∨ d1 = .tuple (as.map f)) (he : d2 = .list (bs.map g) ∨ d2 = .tuple (bs.map g)) (ha : Ev X T ρ a d1) (hb : Ev X T ρ b d2) (hg : Gl X "zip" := by rfl)
    (hs : starEach [a, b] X.env = (false, eval a X.env) :: starEach [b] X.env := by rfl) (hs2 : starEach [b] X.env = (false, eval b X.env) :: starEach [] X.env := by rfl) (hpl : (backTo pos (starEach [b] X.env)).any (·.1) = false := by rfl) :
    Ei X T ρ (.Tuple elts kk tpos) (.Call (.Name "zip" p) [a, b] [] pos) ((as.zip bs).map fun q => pairD (f q.1) (g q.2)) := by
  refine (ei_zip B hd he ha hb hg hs hs2 hpl).eq ?_
  rw [List.zip_map, List.map_map]; rfl
theorem ei_enumE {elts : List Expr} {kk : Nat} {as : List α} {f : α → PyData} (B : Bt X.mg) (hd : d1 = .list (as.map f) ∨ d1 = .tuple (as.map f)) (ha : Ev X T ρ a d1) (hg : Gl X "enumerate" := by rfl)
    (hs : starEach [a] X.env = (false, eval a X.env) :: starEach [] X.env := by rfl) :
    Ei X T ρ (.Tuple elts kk tpos) (.Call (.Name "enumerate" p) [a] [] pos) ((enumG as).map fun q => pairD (.int (q.1 : Int)) (f q.2)) := by
  refine (ei_enum B hd ha hg hs).eq ?_
  unfold enumG
  rw [List.length_map, List.zip_map_right, List.map_map]; rfl
/-- a comprehension whose element is g of .. -/
theorem ef_lcE (g : γ → PyData) (own : List (Str × Nat)) {f : α → γ} (hc : X.calm = true) (hN : X.N.Nodup) (ok : BlkOk X.N X.env.scope scope own) (hi : Ei X T ρ tg iter (xs.map emb)) (hz : xs.length < sizeLine)
    (hg : ∀ (s : Shared) (H : Hp) (C : Addr) (cl : List (Str × Addr)) (fp : List Addr), Eg (X.blk s H scope (compEnvC scope cl C X.env) fp) T tg js tgt) (hjs : ∀ j ∈ js, j ∈ own.map (·.2)) (hx : ∀ x ∈ xs, tgt (emb x) (wipeR ρ (own.map (·.2))) = some (ρx x))
    (he : ∀ (s : Shared) (H : Hp) (C : Addr) (cl : List (Str × Addr)) (fp : List Addr), ∀ x ∈ xs, Ev (X.blk s H scope (compEnvC scope cl C X.env) fp) T (ρx x) elt (g (f x)))
    (hs : ∀ x, foldedSetIterable iter X.env x = pure x := by intro _; rfl) : Ef X T ρ (.ListComp elt [⟨tg, iter, [], 0⟩] scope pos) ((xs.map f).map g) := by
  rw [List.map_map]
  exact ef_lc0 (val := fun x => g (f x)) own hc hN ok hi hz hg hjs hx he hs
theorem ef_lcEk (g : γ → PyData) (own : List (Str × Nat)) {f : α → γ} (hc : X.calm = true) (hN : X.N.Nodup) (ok : BlkOk X.N X.env.scope scope own) (hi : Ei X T ρ tg iter (xs.map emb)) (hz : xs.length < sizeLine)
    (hg : ∀ (s : Shared) (H : Hp) (C : Addr) (cl : List (Str × Addr)) (fp : List Addr), Eg (X.blk s H scope (compEnvC scope cl C X.env) fp) T tg js tgt) (hjs : ∀ j ∈ js, j ∈ own.map (·.2)) (hx : ∀ x ∈ xs, tgt (emb x) (wipeR ρ (own.map (·.2))) = some (ρx x))
    (ht : ∀ (s : Shared) (H : Hp) (C : Addr) (cl : List (Str × Addr)) (fp : List Addr), ∀ x ∈ xs, Ets (X.blk s H scope (compEnvC scope cl C X.env) fp) T (ρx x) ifs (keep x))
    (he : ∀ (s : Shared) (H : Hp) (C : Addr) (cl : List (Str × Addr)) (fp : List Addr), ∀ x ∈ xs, keep x = true → Ev (X.blk s H scope (compEnvC scope cl C X.env) fp) T (ρx x) elt (g (f x)))
    (hs : ∀ x, foldedSetIterable iter X.env x = pure x := by intro _; rfl) : Ef X T ρ (.ListComp elt [⟨tg, iter, ifs, 0⟩] scope pos) (((xs.filter keep).map f).map g) := by
  rw [List.map_map]
  exact ef_lc (val := fun x => g (f x)) own hc hN ok hi hz hg hjs hx ht he hs
theorem st_setLcE (g : γ → PyData) {x : Str} (i : Nat) (own : List (Str × Nat)) {f : α → γ} (hc : X.calm = true) (hN : X.N.Nodup) (ok : BlkOk X.N X.env.scope scope own) (hi : Ei X T ρ tg iter (xs.map emb)) (hz : xs.length < sizeLine)
    (hg : ∀ (s : Shared) (H : Hp) (C : Addr) (cl : List (Str × Addr)) (fp : List Addr), Eg (X.blk s H scope (compEnvC scope cl C X.env) fp) T tg js tgt) (hjs : ∀ j ∈ js, j ∈ own.map (·.2)) (hx : ∀ x ∈ xs, tgt (emb x) (wipeR ρ (own.map (·.2))) = some (ρx x))
    (he : ∀ (s : Shared) (H : Hp) (C : Addr) (cl : List (Str × Addr)) (fp : List Addr), ∀ x ∈ xs, Ev (X.blk s H scope (compEnvC scope cl C X.env) fp) T (ρx x) elt (g (f x)))
    (hy : X.N[i]? = some x := by rfl) (hyl : X.env.scope.names.lookup x = some .local := by rfl) (hsw : swapsWith (.ListComp elt [⟨tg, iter, [], 0⟩] scope pos) (some (.Name x p)) tpos.line X.env = pure true := by exact sw_true rfl rfl rfl (by decide +kernel))
    (hs : ∀ x, foldedSetIterable iter X.env x = pure x := by intro _; rfl) : ∃ te : TE, PS X (.Assign [.Name x p] (.ListComp elt [⟨tg, iter, [], 0⟩] scope pos) tpos) (tAsg te (gName i)) ∧ ∀ σ H Q, tF X.K T ρ ((xs.map f).map g) σ H Q → te σ H Q := by
  have h := st_setLc (elt := elt) (keep := fun _ => true) (val := fun x => g (f x)) (pos := pos) (tpos := tpos) (p := p) i own hc hN ok hi hz hg hjs hx (fun s H C cl fp x _ => ets_nil) (fun s H C cl fp x hx _ => he s H C cl fp x hx) hy hyl hsw hs
  rw [List.filter_eq_self.mpr fun _ _ => rfl] at h
  rw [List.map_map]
  exact h
theorem st_setLcEk (g : γ → PyData) {x : Str} (i : Nat) (own : List (Str × Nat)) {f : α → γ} (hc : X.calm = true) (hN : X.N.Nodup) (ok : BlkOk X.N X.env.scope scope own) (hi : Ei X T ρ tg iter (xs.map emb)) (hz : xs.length < sizeLine)
    (hg : ∀ (s : Shared) (H : Hp) (C : Addr) (cl : List (Str × Addr)) (fp : List Addr), Eg (X.blk s H scope (compEnvC scope cl C X.env) fp) T tg js tgt) (hjs : ∀ j ∈ js, j ∈ own.map (·.2)) (hx : ∀ x ∈ xs, tgt (emb x) (wipeR ρ (own.map (·.2))) = some (ρx x))
    (ht : ∀ (s : Shared) (H : Hp) (C : Addr) (cl : List (Str × Addr)) (fp : List Addr), ∀ x ∈ xs, Ets (X.blk s H scope (compEnvC scope cl C X.env) fp) T (ρx x) ifs (keep x))
    (he : ∀ (s : Shared) (H : Hp) (C : Addr) (cl : List (Str × Addr)) (fp : List Addr), ∀ x ∈ xs, keep x = true → Ev (X.blk s H scope (compEnvC scope cl C X.env) fp) T (ρx x) elt (g (f x)))
    (hy : X.N[i]? = some x := by rfl) (hyl : X.env.scope.names.lookup x = some .local := by rfl) (hsw : swapsWith (.ListComp elt [⟨tg, iter, ifs, 0⟩] scope pos) (some (.Name x p)) tpos.line X.env = pure true := by exact sw_true rfl rfl rfl (by decide +kernel))
    (hs : ∀ x, foldedSetIterable iter X.env x = pure x := by intro _; rfl) : ∃ te : TE, PS X (.Assign [.Name x p] (.ListComp elt [⟨tg, iter, ifs, 0⟩] scope pos) tpos) (tAsg te (gName i)) ∧ ∀ σ H Q, tF X.K T ρ (((xs.filter keep).map f).map g) σ H Q → te σ H Q := by
  rw [List.map_map]
  exact st_setLc (val := fun x => g (f x)) i own hc hN ok hi hz hg hjs hx ht he hy hyl hsw hs
/-- a for that folds, the turn's number told -/
theorem st_foldN {P : Po} {body : List Stmt} (R : Nat → β → List Sl → Prop) (step : β → α → β) {b0 : β} (hp : PassesOwn (model X.prog X.w) X.A X.env X.xe) (hc : X.calm = true) (hi : Ei X T ρ tg iter (xs.map emb)) (hg : Eg X T tg js tgt) (h0 : R 0 b0 ρ)
    (hb : ∀ i x, xs[i]? = some x → ∀ b ρ1, R i b ρ1 → ∃ ρ2, tgt (emb x) ρ1 = some ρ2 ∧ Ss X T ρ2 body { P with nx := R (i + 1) (step b x), ct := R (i + 1) (step b x), bk := P.nx }) (hd : ∀ ρ', R xs.length (xs.foldl step b0) ρ' → P.nx ρ')
    (hs : ∀ x, foldedSetIterable iter X.env x = pure x := by intro _; rfl) : St1 X T ρ (.For tg iter body [] pos) P := by
  refine st_for hp hc hi hg (fun i => R i ((xs.take i).foldl step b0)) h0 (fun i d ρ1 h1 h2 => ?_) (fun ρ' h => hd ρ' (by rw [List.length_map, List.take_length] at h; exact h)) hs
  rw [List.getElem?_map] at h1
  cases q : xs[i]? with
  | none => rw [q] at h1; cases h1
  | some x =>
    rw [q] at h1
    cases h1
    rw [List.take_add_one, q, List.foldl_append]
    exact hb i x q _ ρ1 h2
/-- a for that folds -/
theorem st_fold {P : Po} {body : List Stmt} (R : β → List Sl → Prop) (step : β → α → β) {b0 : β} (hp : PassesOwn (model X.prog X.w) X.A X.env X.xe) (hc : X.calm = true) (hi : Ei X T ρ tg iter (xs.map emb)) (hg : Eg X T tg js tgt) (h0 : R b0 ρ)
    (hb : ∀ x ∈ xs, ∀ b ρ1, R b ρ1 → ∃ ρ2, tgt (emb x) ρ1 = some ρ2 ∧ Ss X T ρ2 body { P with nx := R (step b x), ct := R (step b x), bk := P.nx }) (hd : ∀ ρ', R (xs.foldl step b0) ρ' → P.nx ρ')
    (hs : ∀ x, foldedSetIterable iter X.env x = pure x := by intro _; rfl) : St1 X T ρ (.For tg iter body [] pos) P :=
  st_foldN (fun _ => R) step hp hc hi hg h0 (fun i x h => hb x (List.mem_of_getElem? h)) hd hs
end
theorem small {n : Nat} (h : n < 1000000) : n < sizeLine := Nat.lt_of_lt_of_le h (by decide)
theorem smallE {n : Nat} (h : n < 1000000) : n ≤ sizeLine := Nat.le_of_lt (small h)
theorem fitsR {i j : Int} (h : -(2 ^ 64) < j ∧ j < 2 ^ 64) : MulFits i j := IntMulOk.of_right (intBits_le_64 h.1 h.2)
theorem fitsL {i j : Int} (h : -(2 ^ 64) < i ∧ i < 2 ^ 64) : MulFits i j := IntMulOk.of_left (intBits_le_64 h.1 h.2)
end Rw
namespace Rw
open PySem PySem.Spec PyProof.Rows L2
theorem eqvAll_ints : ∀ a b : List Int, PyData.eqvAll (a.map .int) (b.map .int) = decide (a = b)
  | [], [] => rfl
  | [], _ :: _ => rfl
  | _ :: _, [] => rfl
  | x :: a, y :: b => by
    rw [List.map_cons, List.map_cons]
    show (PyData.eqv (.int x) (.int y) && PyData.eqvAll (a.map .int) (b.map .int)) = _
    rw [eqvAll_ints a b]
    show (x == y && decide (a = b)) = _
    by_cases h1 : x = y
    · by_cases h2 : a = b
      · subst h1 h2; simp
      · simp [h2]
    · simp [h1]
theorem eqv_row (a b : List Int) : PyData.eqv (rowT a) (rowT b) = decide (a = b) := eqvAll_ints a b
theorem eqvAll_rows : ∀ a b : List (List Int), PyData.eqvAll (a.map rowT) (b.map rowT) = decide (a = b)
  | [], [] => rfl
  | [], _ :: _ => rfl
  | _ :: _, [] => rfl
  | x :: a, y :: b => by
    rw [List.map_cons, List.map_cons]
    show (PyData.eqv (rowT x) (rowT y) && PyData.eqvAll (a.map rowT) (b.map rowT)) = _
    rw [eqvAll_rows a b, eqv_row]
    by_cases h1 : x = y
    · by_cases h2 : a = b
      · subst h1 h2; simp
      · simp [h2]
    · simp [h1]
theorem eqv_lot (a b : List (List Int)) : PyData.eqv (lotT a) (lotT b) = decide (a = b) := eqvAll_rows a b
theorem lay_ints : ∀ a : List Int, PyData.canLayAll0 (a.map .int) = true
  | [] => rfl
  | _ :: a => by
    rw [List.map_cons]
    show (true && PyData.canLayAll0 (a.map .int)) = true
    rw [lay_ints a]; rfl
theorem dep_ints : ∀ a : List Int, PyData.depthAll (a.map .int) = 0
  | [] => rfl
  | _ :: a => by
    rw [List.map_cons]
    show max 0 (PyData.depthAll (a.map .int)) = 0
    rw [dep_ints a]; rfl
theorem lay_rows : ∀ a : List (List Int), PyData.canLayAll0 (a.map rowT) = true
  | [] => rfl
  | x :: a => by
    rw [List.map_cons]
    show (PyData.canLayAll0 (x.map .int) && PyData.canLayAll0 (a.map rowT)) = true
    rw [lay_rows a, lay_ints]; rfl
theorem dep_rows : ∀ a : List (List Int), PyData.depthAll (a.map rowT) ≤ 1
  | [] => Nat.zero_le _
  | x :: a => by
    rw [List.map_cons]
    show max (PyData.depthAll (x.map .int) + 1) (PyData.depthAll (a.map rowT)) ≤ 1
    rw [dep_ints]
    have := dep_rows a
    omega
theorem shaped_row (a : List Int) : SeqAt.shaped (rowT a) = true := by
  unfold SeqAt.shaped
  rw [Bool.and_eq_true]
  refine ⟨lay_ints a, decide_eq_true ?_⟩
  show PyData.depthAll (a.map .int) + 1 ≤ 64
  rw [dep_ints]; omega
theorem shaped_lot (a : List (List Int)) : SeqAt.shaped (lotT a) = true := by
  unfold SeqAt.shaped
  rw [Bool.and_eq_true]
  refine ⟨lay_rows a, decide_eq_true ?_⟩
  show PyData.depthAll (a.map rowT) + 1 ≤ 64
  have := dep_rows a
  omega
section
variable {X : Cx} {T : Tab} {ρ : List Sl} {a b : Expr} {k : Nat}
theorem units64 {A : Around} (hr : Room k A) : A.units + 64 < cLine := by have := hr.un; omega
theorem cmp_eqRow {r s : List Int} (hr : Room k X.A) : CmpD X T .Eq (rowT r) (rowT s) (decide (r = s)) := by
  have h := cmp_eqD (X := X) (T := T) (units64 hr) (shaped_row r) (shaped_row s)
  rw [eqv_row] at h; exact h
theorem cmp_neRow {r s : List Int} (hr : Room k X.A) : CmpD X T .NotEq (rowT r) (rowT s) (!decide (r = s)) := by
  have h := cmp_neD (X := X) (T := T) (units64 hr) (shaped_row r) (shaped_row s)
  rw [eqv_row] at h; exact h
theorem cmp_eqLot {r s : List (List Int)} (hr : Room k X.A) : CmpD X T .Eq (lotT r) (lotT s) (decide (r = s)) := by
  have h := cmp_eqD (X := X) (T := T) (units64 hr) (shaped_lot r) (shaped_lot s)
  rw [eqv_lot] at h; exact h
theorem cmp_neLot {r s : List (List Int)} (hr : Room k X.A) : CmpD X T .NotEq (lotT r) (lotT s) (!decide (r = s)) := by
  have h := cmp_neD (X := X) (T := T) (units64 hr) (shaped_lot r) (shaped_lot s)
  rw [eqv_lot] at h; exact h
end
/-! ### the law's helpers -/
def cell (ns : List Int) (k : Int) : Int := if k < ns.length then ix ns k else 0
def mix (c p m : Int) : Int := c * 48271 % p % m
theorem mix_lo {c p m : Int} (h : 0 < m) : 0 ≤ mix c p m := Int.emod_nonneg _ (by omega)
theorem mix_hi {c p m : Int} (h : 0 < m) : mix c p m < m := Int.emod_lt_of_pos _ h
def rowF (c w : Int) : List Int := (rng 0 w.toNat).map fun z => mix (c + 11 * z) 9973 13 - 6
theorem rowF_len (c w : Int) : (rowF c w).length = w.toNat := by unfold rowF; rw [List.length_map, rng_len]
theorem rowF_bd {c w z : Int} (h : z ∈ rowF c w) : -6 ≤ z ∧ z ≤ 6 := by
  unfold rowF at h
  obtain ⟨k, _, rfl⟩ := List.mem_map.mp h
  have h1 := mix_lo (c := c + 11 * k) (p := 9973) (m := 13) (by decide)
  have h2 := mix_hi (c := c + 11 * k) (p := 9973) (m := 13) (by decide)
  omega
def addmul (f r : List Int) (c : Int) : List Int := (f.zip r).map fun q => q.1 + c * q.2
def zeros (w : Int) : List Int := (rng 0 w.toNat).map fun _ => 0
def sumF (counts : List Int) (lot : List (List Int)) (w : Int) : List Int := (counts.zip lot).foldl (fun f q => addmul f q.2 q.1) (zeros w)
def wideF (ns : List Int) (most : Int) : Int := 1 + mix (cell ns 0) 9967 most
def lotStep (ns : List Int) (k w : Int) (found : List (List Int)) (n : Int) : List (List Int) :=
  if 0 < n ∧ mix (cell ns (k + n) + 101 * n) 9941 4 = 0 then
    found ++ [sumF ((rng 0 n.toNat).map fun j => mix (cell ns (k + n) + 101 * n + 3 * j) 9931 5 - 2) found w]
  else found ++ [rowF (cell ns (k + n) + 101 * n) w]
def lotF (ns : List Int) (k w most : Int) : List (List Int) := (rng 0 (mix (cell ns k) 9949 (most + 1)).toNat).foldl (lotStep ns k w) []
def countsF (ns : List Int) (k : Int) (many : Int) : List Int := (rng 0 many.toNat).map fun n => mix (cell ns (k + n % 3) + 17 * n) 9929 21 - 10
theorem zeros_len (w : Int) : (zeros w).length = w.toNat := by unfold zeros; rw [List.length_map, rng_len]
theorem addmul_len (f r : List Int) (c : Int) : (addmul f r c).length = min f.length r.length := by unfold addmul; rw [List.length_map, List.length_zip]
theorem sumF_len_le (w : Int) : ∀ (qs : List (Int × List Int)) (f : List Int), (qs.foldl (fun f q => addmul f q.2 q.1) f).length ≤ f.length
  | [], f => Nat.le_refl _
  | q :: qs, f => by
    rw [List.foldl_cons]
    refine Nat.le_trans (sumF_len_le w qs _) ?_
    rw [addmul_len]; omega
theorem sumF_len {w : Int} : ∀ {qs : List (Int × List Int)} {f : List Int}, (∀ q ∈ qs, q.2.length = w.toNat) → f.length = w.toNat → (qs.foldl (fun f q => addmul f q.2 q.1) f).length = w.toNat
  | [], f, _, h => h
  | q :: qs, f, hq, h => by
    rw [List.foldl_cons]
    refine sumF_len (fun r hr => hq r (List.mem_cons_of_mem _ hr)) ?_
    rw [addmul_len, h, hq q List.mem_cons_self]; omega
theorem sumF_len' {counts : List Int} {lot : List (List Int)} {w : Int} (h : ∀ r ∈ lot, r.length = w.toNat) : (sumF counts lot w).length = w.toNat :=
  sumF_len (fun q hq => h _ (List.of_mem_zip hq).2) (zeros_len w)
theorem lotF_len {ns : List Int} {k w : Int} : ∀ (js : List Int) (f : List (List Int)), (js.foldl (lotStep ns k w) f).length = f.length + js.length
  | [], f => rfl
  | j :: js, f => by
    rw [List.foldl_cons, lotF_len js, List.length_cons]
    unfold lotStep
    split <;> (rw [List.length_append, List.length_singleton]; omega)
theorem lotF_rows {ns : List Int} {k w : Int} : ∀ (js : List Int) (f : List (List Int)), (∀ r ∈ f, r.length = w.toNat) → ∀ r ∈ js.foldl (lotStep ns k w) f, r.length = w.toNat
  | [], f, h => h
  | j :: js, f, h => by
    rw [List.foldl_cons]
    refine lotF_rows js _ fun r hr => ?_
    unfold lotStep at hr
    split at hr
    · rcases List.mem_append.mp hr with hr | hr
      · exact h r hr
      · rw [List.mem_singleton.mp hr]; exact sumF_len' h
    · rcases List.mem_append.mp hr with hr | hr
      · exact h r hr
      · rw [List.mem_singleton.mp hr]; exact rowF_len _ _
/-! promises of the helpers -/
def semCell (sl : List Sl) (d : PyData) : Prop := ∃ ns k, sl = [.scr ns, .dat (.int k)] ∧ 0 ≤ k ∧ d = .int (cell ns k)
def semMix (sl : List Sl) (d : PyData) : Prop := ∃ c p m, sl = [.dat (.int c), .dat (.int p), .dat (.int m)] ∧ 0 < p ∧ 0 < m ∧ d = .int (mix c p m)
def semRow (sl : List Sl) (d : PyData) : Prop := ∃ c w, sl = [.dat (.int c), .dat (.int w)] ∧ 0 ≤ w ∧ w ≤ 100 ∧ d = rowT (rowF c w)
def semSum (sl : List Sl) (d : PyData) : Prop := ∃ dc dl counts lot w, sl = [.dat dc, .dat dl, .dat (.int w)] ∧ (dc = rowL counts ∨ dc = rowT counts) ∧ (dl = lotL lot ∨ dl = lotT lot) ∧ 0 ≤ w ∧ w ≤ 100 ∧ (∀ c ∈ counts, -(2 ^ 64) < c ∧ c < 2 ^ 64) ∧ d = rowT (sumF counts lot w)
def semWide (sl : List Sl) (d : PyData) : Prop := ∃ ns m, sl = [.scr ns, .dat (.int m)] ∧ 0 < m ∧ d = .int (wideF ns m)
def semLot (sl : List Sl) (d : PyData) : Prop := ∃ ns k w m, sl = [.scr ns, .dat (.int k), .dat (.int w), .dat (.int m)] ∧ 0 ≤ k ∧ 0 ≤ w ∧ w ≤ 100 ∧ 0 ≤ m ∧ m ≤ 100 ∧ d = lotT (lotF ns k w m)
def semCounts (sl : List Sl) (d : PyData) : Prop := ∃ ns k m, sl = [.scr ns, .dat (.int k), .dat (.int m)] ∧ 0 ≤ k ∧ 0 ≤ m ∧ m ≤ 100 ∧ d = rowT (countsF ns k m)
def isInt : PyData → Bool
  | .int _ => true
  | _ => false
def isBool : PyData → Bool
  | .bool _ => true
  | _ => false
theorem kit_int (x : PyData) : kitB (tyOf x) "int" = some (isInt x || isBool x) := by
  cases x
  case none => exact (by decide +kernel : kitB "NoneType" "int" = some false)
  case bool => exact (by decide +kernel : kitB "bool" "int" = some true)
  case int => exact (by decide +kernel : kitB "int" "int" = some true)
  case str => exact (by decide +kernel : kitB "str" "int" = some false)
  case list => exact (by decide +kernel : kitB "list" "int" = some false)
  case tuple => exact (by decide +kernel : kitB "tuple" "int" = some false)
  case dict => exact (by decide +kernel : kitB "dict" "int" = some false)
theorem kit_bool (x : PyData) : kitB (tyOf x) "bool" = some (isBool x) := by
  cases x
  case none => exact (by decide +kernel : kitB "NoneType" "bool" = some false)
  case bool => exact (by decide +kernel : kitB "bool" "bool" = some true)
  case int => exact (by decide +kernel : kitB "int" "bool" = some false)
  case str => exact (by decide +kernel : kitB "str" "bool" = some false)
  case list => exact (by decide +kernel : kitB "list" "bool" = some false)
  case tuple => exact (by decide +kernel : kitB "tuple" "bool" = some false)
  case dict => exact (by decide +kernel : kitB "dict" "bool" = some false)
def isTup : PyData → Bool
  | .tuple _ => true
  | _ => false
theorem kit_tuple (x : PyData) : kitB (tyOf x) "tuple" = some (isTup x) := by
  cases x
  case none => exact (by decide +kernel : kitB "NoneType" "tuple" = some false)
  case bool => exact (by decide +kernel : kitB "bool" "tuple" = some false)
  case int => exact (by decide +kernel : kitB "int" "tuple" = some false)
  case str => exact (by decide +kernel : kitB "str" "tuple" = some false)
  case list => exact (by decide +kernel : kitB "list" "tuple" = some false)
  case tuple => exact (by decide +kernel : kitB "tuple" "tuple" = some true)
  case dict => exact (by decide +kernel : kitB "dict" "tuple" = some false)
def isRowD (d : PyData) (w : Int) : Bool := match d with
  | .tuple ds => decide ((ds.length : Int) = w) && ds.all isInt
  | _ => false
def isLotD (d : PyData) (w : Int) : Bool := match d with
  | .tuple ds => decide ((ds.length : Int) ≤ 8) && ds.all fun x => isRowD x w
  | _ => false
/-- how long a thing is -/
def lenD : PyData → Nat
  | .tuple ds => ds.length
  | .list ds => ds.length
  | _ => 0
def itemsD : PyData → List PyData
  | .tuple ds => ds
  | _ => []
def semIsRow (sl : List Sl) (d : PyData) : Prop := ∃ (x : PyData) (w : Int), sl = [.dat x, .dat (.int w)] ∧ lenD x ≤ 1000 ∧ d = .bool (isRowD x w)
def semIsLot (sl : List Sl) (d : PyData) : Prop := ∃ (x : PyData) (w : Int), sl = [.dat x, .dat (.int w)] ∧ lenD x ≤ 1000 ∧ (∀ y ∈ itemsD x, lenD y ≤ 1000) ∧ d = .bool (isLotD x w)
theorem cutG_take {α : Type} {xs : List α} {a : Int} (h0 : 0 ≤ a) (h1 : a ≤ xs.length) : cutG xs none (some a) = xs.take a.toNat := by
  have e : a = ((a.toNat : Nat) : Int) := by omega
  unfold cutG
  rw [HT.sIx_none, e, HT.sIx_nat, List.drop_zero, Nat.sub_zero]
  congr 1
  omega
theorem cutG_drop {α : Type} {xs : List α} {a : Int} (h0 : 0 ≤ a) (h1 : a ≤ xs.length) : cutG xs (some a) none = xs.drop a.toNat := by
  have e : a = ((a.toNat : Nat) : Int) := by omega
  unfold cutG
  rw [HT.sIx_none, e, HT.sIx_nat]
  rw [show min a.toNat xs.length = a.toNat by omega]
  refine List.take_of_length_le ?_
  rw [List.length_drop]; omega
theorem boot_bool' : bootBuiltins "bool" = some (.type "bool") := by decide +kernel
def semWhole (sl : List Sl) (d : PyData) : Prop := ∃ x : PyData, sl = [.dat x] ∧ d = .bool (isInt x)
def semSumOf (sl : List Sl) (d : PyData) : Prop := ∃ (counts : List Int) (lot : List (List Int)) (w : Int), sl = [.dat (rowT counts), .dat (lotT lot), .dat (.int w)] ∧ 0 ≤ w ∧ w ≤ 100 ∧ lot.length ≤ 1000 ∧ (∀ c ∈ counts, -(2 ^ 64) < c ∧ c < 2 ^ 64) ∧ (∀ r ∈ lot, (r.length : Int) = w) ∧
  d = rowT ((rng 0 w.toNat).map fun z => ((counts.zip lot).map fun q => q.1 * ix q.2 z).sum)
def semProduct (sl : List Sl) (d : PyData) : Prop := ∃ d1 d2 r s, sl = [.dat d1, .dat d2] ∧ (d1 = rowT r ∨ d1 = rowL r) ∧ (d2 = rowT s ∨ d2 = rowL s) ∧ r.length ≤ 1000 ∧ (∀ q ∈ r.zip s, MulFits q.1 q.2) ∧ d = .int (((r.zip s).map fun q => q.1 * q.2).sum)
end Rw
namespace Wk
open PySem PySem.Spec PyProof.Rows L2 Rw
def topS (i : Nat) : Stmt := PySem.Challenge.pw_rowwright_k01_rows_and_lots.main.body.getD i (.Pass ⟨0, 0, 0, 0⟩)
abbrev s_is_number : Stmt := topS 1
abbrev s_is_row : Stmt := topS 2
abbrev s_is_lot : Stmt := topS 3
abbrev s_law_cell : Stmt := topS 5
abbrev s_law_mix : Stmt := topS 6
abbrev s_law_row : Stmt := topS 7
abbrev s_law_sum : Stmt := topS 8
abbrev s_law_wide : Stmt := topS 9
abbrev s_law_lot : Stmt := topS 10
abbrev s_law_bad_row : Stmt := topS 11
abbrev s_law : Stmt := topS 12
section
variable {P : Program} {w : World} {K : PySem.W.Frag} {mg : Str → Option Value} {base : Heap} {T : Tab}
theorem sc_is_number : FnScope ["thing"] ["thing"] (defScope s_is_number) := ⟨rfl, rfl, rfl, by decide +kernel, rfl, by decide +kernel, by decide +kernel⟩
theorem df_is_number {f : Addr} {fd : FuncData} (F : Fun K "is_number" "is_number" s_is_number f fd) (hmg : mg "is_number" = some (.ref f)) (B : Bt mg) : Df P w K mg base T 41 "is_number" 1 semWhole := by
  refine df_mk F sc_is_number hmg (F.binds fun _ _ _ _ _ _ us hl => match us, hl with | [_], _ => rfl) fun cdv A outer s H E sl d hr hl hs => ?_
  obtain ⟨x, rfl, rfl⟩ := hs
  refine ss_ret (ev_andB (ev_isi (r := isInt x || isBool x) B (ev_var 0) (kit_int x) B.int PyProof.Rows.boot_int) (fun _ => ev_one (ev_not (ev_isi (r := isBool x) B (ev_var 0) (kit_bool x) B.bool boot_bool')))) ?_
  show PyData.bool _ = .bool _
  cases x <;> rfl
theorem sc_is_row : FnScope ["thing", "wide", "one"] ["thing", "wide"] (defScope s_is_row) := ⟨rfl, rfl, rfl, by decide +kernel, rfl, by decide +kernel, by decide +kernel⟩
theorem df_is_row {f : Addr} {fd : FuncData} (F : Fun K "is_row" "is_row" s_is_row f fd) (hmg : mg "is_row" = some (.ref f)) (B : Bt mg) (D_is_number : Df P w K mg base T 41 "is_number" 1 semWhole) : Df P w K mg base T 42 "is_row" 2 semIsRow := by
  refine df_mk F sc_is_row hmg (F.binds fun _ _ _ _ _ _ us hl => match us, hl with | [_, _], _ => rfl) fun cdv A outer s H E sl d hr hl hs => ?_
  obtain ⟨x, w, rfl, hz, rfl⟩ := hs
  by_cases hx : ∃ ds, x = .tuple ds
  · obtain ⟨ds, rfl⟩ := hx
    have hz : ds.length ≤ 1000 := hz
    refine ss_ret (ev_andB (ev_isi B (ev_var 0) (kit_tuple _) B.tuple PyProof.Rows.boot_tuple) fun _ => ev_andB (cmp_eq.ev (ev_lenT B (ev_var 0)) (ev_var 1)) fun _ => ev_one (ev_all B rfl (ef_lcE .bool (f := isInt) (emb := fun x => x) [("one", 2)] rfl sc_is_row.nd (blkOk_by (by kernel_rfl)) ((ei_tup (ev_var 0)).eq (List.map_id' ds).symm) (small (by omega)) (fun _ _ _ _ _ => eg_name 2 sc_is_row.nd) (by decide) (fun _ _ => rfl)
      fun _ _ _ _ _ q hq => ev_call D_is_number hr (ea_cons (ev_var 2) ea_nil) ⟨_, rfl, rfl⟩).ev)) ?_
    show PyData.bool _ = .bool _
    rw [List.all_map]
    rfl
  · have e : isTup x = false := by
      cases x with
      | tuple ds => exact absurd ⟨ds, rfl⟩ hx
      | _ => rfl
    refine ss_ret (ev_andB (z := false) (ev_isi B (ev_var 0) (kit_tuple x) B.tuple PyProof.Rows.boot_tuple) fun h => by rw [e] at h; cases h) ?_
    show PyData.bool _ = .bool _
    cases x with
    | tuple ds => exact absurd ⟨ds, rfl⟩ hx
    | _ => rfl
theorem sc_is_lot : FnScope ["thing", "wide", "row"] ["thing", "wide"] (defScope s_is_lot) := ⟨rfl, rfl, rfl, by decide +kernel, rfl, by decide +kernel, by decide +kernel⟩
theorem df_is_lot {f : Addr} {fd : FuncData} (F : Fun K "is_lot" "is_lot" s_is_lot f fd) (hmg : mg "is_lot" = some (.ref f)) (B : Bt mg) (D_is_row : Df P w K mg base T 42 "is_row" 2 semIsRow) : Df P w K mg base T 43 "is_lot" 2 semIsLot := by
  refine df_mk F sc_is_lot hmg (F.binds fun _ _ _ _ _ _ us hl => match us, hl with | [_, _], _ => rfl) fun cdv A outer s H E sl d hr hl hs => ?_
  obtain ⟨x, w, rfl, hz, hz2, rfl⟩ := hs
  by_cases hx : ∃ ds, x = .tuple ds
  · obtain ⟨ds, rfl⟩ := hx
    have hz : ds.length ≤ 1000 := hz
    refine ss_ret (ev_andB (ev_isi B (ev_var 0) (kit_tuple _) B.tuple PyProof.Rows.boot_tuple) fun _ => ev_andB (cmp_le.ev (ev_lenT B (ev_var 0)) ev_int) fun _ => ev_one (ev_all B rfl (ef_lcE .bool (f := fun x => isRowD x w) (emb := fun x => x) [("row", 2)] rfl sc_is_lot.nd (blkOk_by (by kernel_rfl)) ((ei_tup (ev_var 0)).eq (List.map_id' ds).symm) (small (by omega)) (fun _ _ _ _ _ => eg_name 2 sc_is_lot.nd) (by decide) (fun _ _ => rfl)
      fun _ _ _ _ _ q hq => ev_call D_is_row hr (ea_cons (ev_var 2) (ea_cons (ev_var 1) ea_nil)) ⟨_, _, rfl, hz2 _ hq, rfl⟩).ev)) ?_
    show PyData.bool _ = .bool _
    rw [List.all_map]
    rfl
  · have e : isTup x = false := by
      cases x with
      | tuple ds => exact absurd ⟨ds, rfl⟩ hx
      | _ => rfl
    refine ss_ret (ev_andB (z := false) (ev_isi B (ev_var 0) (kit_tuple x) B.tuple PyProof.Rows.boot_tuple) fun h => by rw [e] at h; cases h) ?_
    show PyData.bool _ = .bool _
    cases x with
    | tuple ds => exact absurd ⟨ds, rfl⟩ hx
    | _ => rfl
theorem sc_law_cell : FnScope ["_law_script", "_law_k"] ["_law_script", "_law_k"] (defScope s_law_cell) := ⟨rfl, rfl, rfl, by decide +kernel, rfl, by decide +kernel, by decide +kernel⟩
theorem df_law_cell {f : Addr} {fd : FuncData} (F : Fun K "_law_cell" "_law_cell" s_law_cell f fd) (hmg : mg "_law_cell" = some (.ref f)) (B : Bt mg) : Df P w K mg base T 41 "_law_cell" 2 semCell := by
  refine df_mk F sc_law_cell hmg (F.binds fun _ _ _ _ _ _ us hl => match us, hl with | [_, _], _ => rfl) fun cdv A outer s H E sl d hr hl hs => ?_
  obtain ⟨ns, k, rfl, h0, rfl⟩ := hs
  refine ss_ifRet (cmp_lt.et (ev_var 1) (ev_lenS B 0)) (fun h => ss_ret (ev_ixS (i := k) (z := ix ns k) 0 rfl (ev_var 1) ?_) ?_) fun h => ss_ret ev_int ?_
  · have h := of_decide_eq_true h
    have e := atI_ix (r := ns) h0 h
    unfold ix
    unfold atI at e ⊢
    rw [List.length_map] at e
    cases q : ixN ns.length k with
    | none => rw [q] at e; cases e
    | some j =>
      rw [q] at e
      show ns[j]? = _
      have e : (ns.map PyData.int)[j]? = some (.int (ix ns k)) := e
      rw [List.getElem?_map] at e
      cases r : ns[j]? with
      | none => rw [r] at e; cases e
      | some z => rw [r] at e; cases e; rfl
  · have h := of_decide_eq_true h
    show PyData.int _ = .int (cell ns k)
    unfold cell
    rw [if_pos h]
  · have h := of_decide_eq_false h
    show PyData.int _ = .int (cell ns k)
    unfold cell
    rw [if_neg h]
theorem sc_law_mix : FnScope ["_law_cell_here", "_law_prime", "_law_many"] ["_law_cell_here", "_law_prime", "_law_many"] (defScope s_law_mix) := ⟨rfl, rfl, rfl, by decide +kernel, rfl, by decide +kernel, by decide +kernel⟩
theorem df_law_mix {f : Addr} {fd : FuncData} (F : Fun K "_law_mix" "_law_mix" s_law_mix f fd) (hmg : mg "_law_mix" = some (.ref f)) (B : Bt mg) : Df P w K mg base T 41 "_law_mix" 3 semMix := by
  refine df_mk F sc_law_mix hmg (F.binds fun _ _ _ _ _ _ us hl => match us, hl with | [_, _, _], _ => rfl) fun cdv A outer s H E sl d hr hl hs => ?_
  obtain ⟨c, p, m, rfl, hp, hm, rfl⟩ := hs
  exact ss_ret (ev_mod (ev_mod (ev_mul (ev_var 0) ev_int (fitsR (by decide))) (ev_var 1) hp) (ev_var 2) hm) rfl
theorem sc_law_row : FnScope ["_law_cell_here", "_law_wide_here", "_law_at"] ["_law_cell_here", "_law_wide_here"] (defScope s_law_row) := ⟨rfl, rfl, rfl, by decide +kernel, rfl, by decide +kernel, by decide +kernel⟩
theorem df_law_row {f : Addr} {fd : FuncData} (F : Fun K "_law_row" "_law_row" s_law_row f fd) (hmg : mg "_law_row" = some (.ref f)) (B : Bt mg) (D_law_mix : Df P w K mg base T 41 "_law_mix" 3 semMix) : Df P w K mg base T 42 "_law_row" 2 semRow := by
  refine df_mk F sc_law_row hmg (F.binds fun _ _ _ _ _ _ us hl => match us, hl with | [_, _], _ => rfl) fun cdv A outer s H E sl d hr hl hs => ?_
  obtain ⟨c, w, rfl, h0, h1, rfl⟩ := hs
  exact ss_ret (ev_tupL B (ef_lcE .int [("_law_at", 2)] rfl sc_law_row.nd (blkOk_by (by kernel_rfl)) (ei_range1 B (ev_var 1) ⟨by omega, by omega⟩) (by rw [rng_len]; exact small (by omega)) (fun _ _ _ _ _ => eg_name 2 sc_law_row.nd) (by decide) (fun _ _ => rfl)
    fun _ _ _ _ _ x hx => ev_sub (ev_call D_law_mix hr (ea_cons (ev_add (ev_var 0) (ev_mul ev_int (ev_var 2) (fitsL (by decide)))) (ea_cons ev_int (ea_cons ev_int ea_nil))) ⟨_, _, _, rfl, by decide, by decide, rfl⟩) ev_int).ev) rfl
theorem sc_law_sum : FnScope ["_law_counts", "_law_lot_here", "_law_wide_here", "_law_found", "_law_count", "_law_row_here", "_law_at", "_law_a", "_law_b"] ["_law_counts", "_law_lot_here", "_law_wide_here"] (defScope s_law_sum) := ⟨rfl, rfl, rfl, by decide +kernel, rfl, by decide +kernel, by decide +kernel⟩
theorem df_law_sum {f : Addr} {fd : FuncData} (F : Fun K "_law_sum" "_law_sum" s_law_sum f fd) (hmg : mg "_law_sum" = some (.ref f)) (B : Bt mg) : Df P w K mg base T 42 "_law_sum" 3 semSum := by
  refine df_mk F sc_law_sum hmg (F.binds fun _ _ _ _ _ _ us hl => match us, hl with | [_, _, _], _ => rfl) fun cdv A outer s H E sl d hr hl hs => ?_
  obtain ⟨dc, dl, counts, lot, w, rfl, hdc, hdl, h0, h1, hcs, rfl⟩ := hs
  have hdc : dc = .list (counts.map .int) ∨ dc = .tuple (counts.map .int) := hdc
  have hdl : dl = .list (lot.map rowT) ∨ dl = .tuple (lot.map rowT) := hdl
  refine ss_then (lc_dat (st_setLcE .int (f := fun _ => (0 : Int)) 3 [("_law_at", 6)] rfl sc_law_sum.nd (blkOk_by (by kernel_rfl)) (ei_range1 B (ev_var 2) ⟨by omega, by omega⟩) (by rw [rng_len]; exact small (by omega)) (fun _ _ _ _ _ => eg_name 6 sc_law_sum.nd) (by decide) (fun _ _ => rfl)
    fun _ _ _ _ _ x hx => ev_int) rfl) ?_
  refine ss_cons (M := fun ρ => ∃ s4 s5, ρ = [.dat dc, .dat dl, .dat (.int w), .dat (rowL (sumF counts lot w)), s4, s5, .no, .no, .no]) ?_ fun ρ' h => ?_
  · refine st_fold (α := Int × List Int) (β := List Int) (b0 := zeros w) (fun z ρ => z.length ≤ 100 ∧ ∃ s4 s5, ρ = [.dat dc, .dat dl, .dat (.int w), .dat (rowL z), s4, s5, .no, .no, .no]) (fun z q => addmul z q.2 q.1) pass_nox rfl (ei_zipE B hdc hdl (ev_var 0) (ev_var 1)) (eg_pair 4 5 rfl sc_law_sum.nd) ⟨by rw [zeros_len]; omega, _, _, rfl⟩ (fun q hq z ρ1 hz => ?_) fun ρ' h => h.2
    obtain ⟨hz, s4, s5, rfl⟩ := hz
    refine ⟨_, rfl, ss_one (lc_dat (st_setLcE .int (f := fun (r : Int × Int) => r.1 + q.1 * r.2) 3 [("_law_a", 7), ("_law_b", 8)] rfl sc_law_sum.nd (blkOk_by (by kernel_rfl)) (ei_zipE B (.inl rfl) (.inr rfl) (ev_var 3) (ev_var 5)) (by rw [List.length_zip]; exact small (by omega)) (fun _ _ _ _ _ => eg_pair 7 8 rfl sc_law_sum.nd) (by decide) (fun _ _ => rfl)
      fun _ _ _ _ _ x hx => ev_add (ev_var 7) (ev_mul (ev_var 4) (ev_var 8) (fitsL (hcs _ (List.of_mem_zip hq).1)))) ⟨?_, _, _, rfl⟩)⟩
    rw [addmul_len]; omega
  · obtain ⟨s4, s5, rfl⟩ := h
    exact ss_ret (ev_tupL B (ev_var 3)) rfl
theorem sc_law_wide : FnScope ["_law_script", "_law_most"] ["_law_script", "_law_most"] (defScope s_law_wide) := ⟨rfl, rfl, rfl, by decide +kernel, rfl, by decide +kernel, by decide +kernel⟩
theorem df_law_wide {f : Addr} {fd : FuncData} (F : Fun K "_law_wide" "_law_wide" s_law_wide f fd) (hmg : mg "_law_wide" = some (.ref f)) (B : Bt mg) (D_law_cell : Df P w K mg base T 41 "_law_cell" 2 semCell) (D_law_mix : Df P w K mg base T 41 "_law_mix" 3 semMix) : Df P w K mg base T 42 "_law_wide" 2 semWide := by
  refine df_mk F sc_law_wide hmg (F.binds fun _ _ _ _ _ _ us hl => match us, hl with | [_, _], _ => rfl) fun cdv A outer s H E sl d hr hl hs => ?_
  obtain ⟨ns, m, rfl, h0, rfl⟩ := hs
  exact ss_ret (ev_add ev_int (ev_call D_law_mix hr (ea_cons (ev_call D_law_cell hr (ea_scr 0 (ea_cons ev_int ea_nil)) ⟨_, _, rfl, by decide, rfl⟩) (ea_cons ev_int (ea_cons (ev_var 1) ea_nil))) ⟨_, _, _, rfl, by decide, h0, rfl⟩)) rfl
theorem sc_law_lot : FnScope ["_law_script", "_law_k", "_law_wide_here", "_law_most", "_law_found", "_law_n", "_law_cell_here", "_law_j"] ["_law_script", "_law_k", "_law_wide_here", "_law_most"] (defScope s_law_lot) := ⟨rfl, rfl, rfl, by decide +kernel, rfl, by decide +kernel, by decide +kernel⟩
theorem df_law_lot {f : Addr} {fd : FuncData} (F : Fun K "_law_lot" "_law_lot" s_law_lot f fd) (hmg : mg "_law_lot" = some (.ref f)) (B : Bt mg) (D_law_cell : Df P w K mg base T 41 "_law_cell" 2 semCell) (D_law_mix : Df P w K mg base T 41 "_law_mix" 3 semMix) (D_law_row : Df P w K mg base T 42 "_law_row" 2 semRow) (D_law_sum : Df P w K mg base T 42 "_law_sum" 3 semSum) : Df P w K mg base T 43 "_law_lot" 4 semLot := by
  refine df_mk F sc_law_lot hmg (F.binds fun _ _ _ _ _ _ us hl => match us, hl with | [_, _, _, _], _ => rfl) fun cdv A outer s H E sl d hr hl hs => ?_
  obtain ⟨ns, k, w, m, rfl, h0, h1, h2, h3, h4, rfl⟩ := hs
  have b1 := mix_lo (c := cell ns k) (p := 9949) (m := m + 1) (by omega)
  have b2 := mix_hi (c := cell ns k) (p := 9949) (m := m + 1) (by omega)
  refine ss_setOwn 4 sc_law_lot.nd (ef_lst (ds := []) ea_nil (Nat.zero_le _)) ?_
  refine ss_cons (M := fun ρ => ∃ s5 s6, ρ = [.scr ns, .dat (.int k), .dat (.int w), .dat (.int m), .own ((lotF ns k w m).map rowT), s5, s6, .no]) ?_ fun ρ' h => ?_
  · refine st_foldN (α := Int) (β := List (List Int)) (b0 := []) (fun i z ρ => z.length = i ∧ ∃ s5 s6, ρ = [.scr ns, .dat (.int k), .dat (.int w), .dat (.int m), .own (z.map rowT), s5, s6, .no]) (lotStep ns k w) pass_nox rfl
      (ei_range1 B (ev_call D_law_mix hr (ea_cons (ev_call D_law_cell hr (ea_scr 0 (ea_cons (ev_var 1) ea_nil)) ⟨_, _, rfl, h0, rfl⟩) (ea_cons ev_int (ea_cons (ev_add (ev_var 3) ev_int) ea_nil))) ⟨_, _, _, rfl, by decide, by omega, rfl⟩) ⟨by omega, by omega⟩) (eg_name 5 sc_law_lot.nd) ⟨rfl, _, _, rfl⟩ (fun i n hni z ρ1 hz => ?_) fun ρ' h => h.2
    obtain ⟨hz, s5, s6, rfl⟩ := hz
    have hn := rng_mem (List.mem_of_getElem? hni)
    have hi := (List.getElem?_eq_some_iff.mp hni).1
    rw [rng_len] at hi
    refine ⟨_, rfl, ss_set 6 sc_law_lot.nd (ev_add (ev_call D_law_cell hr (ea_scr 0 (ea_cons (ev_add (ev_var 1) (ev_var 5)) ea_nil)) ⟨_, _, rfl, by omega, rfl⟩) (ev_mul ev_int (ev_var 5) (fitsL (by decide)))) ?_⟩
    refine ss_one (st_if (ew_andB (cmp_gt.et (ev_var 5) ev_int) fun _ => ew_and1 (cmp_eq.et (ev_call D_law_mix hr (ea_cons (ev_var 6) (ea_cons ev_int (ea_cons ev_int ea_nil))) ⟨_, _, _, rfl, by decide, by decide, rfl⟩) ev_int)).et (fun e => ?_) fun e => ?_)
    · have hc : 0 < n ∧ mix (cell ns (k + n) + 101 * n) 9941 4 = 0 := by simpa using e
      refine ss_one (st_append 4 rfl (ev_view 4 rfl (ev_call D_law_sum hr (ea_cons (ef_lcE .int (f := fun j : Int => mix (cell ns (k + n) + 101 * n + 3 * j) 9931 5 - 2) [("_law_j", 7)] rfl sc_law_lot.nd (blkOk_by (by kernel_rfl)) (ei_range1 B (ev_var 5) ⟨by omega, by omega⟩) (by rw [rng_len]; exact small (by omega)) (fun _ _ _ _ _ => eg_name 7 sc_law_lot.nd) (by decide) (fun _ _ => rfl)
        fun _ _ _ _ _ x hx => ev_sub (ev_call D_law_mix hr (ea_cons (ev_add (ev_var 6) (ev_mul ev_int (ev_var 7) (fitsL (by decide)))) (ea_cons ev_int (ea_cons ev_int ea_nil))) ⟨_, _, _, rfl, by decide, by decide, rfl⟩) ev_int).ev (ea_cons (ev_var 4) (ea_cons (ev_var 2) ea_nil))) ⟨_, _, _, z, w, rfl, .inl rfl, .inl rfl, h1, h2, fun c hcc => ?_, rfl⟩) flat_row) (by rw [List.length_map]; exact small (by omega)) ?_)
      · obtain ⟨j, _, rfl⟩ := List.mem_map.mp hcc
        have h1 := mix_lo (c := cell ns (k + n) + 101 * n + 3 * j) (p := 9931) (m := 5) (by decide)
        have h2 := mix_hi (c := cell ns (k + n) + 101 * n + 3 * j) (p := 9931) (m := 5) (by decide)
        omega
      · have e2 : lotStep ns k w z n = z ++ [sumF ((rng 0 n.toNat).map fun j => mix (cell ns (k + n) + 101 * n + 3 * j) 9931 5 - 2) z w] := if_pos hc
        rw [e2, List.length_append, List.length_singleton, hz]
        refine ⟨rfl, .dat (.int n), .dat (.int (cell ns (k + n) + 101 * n)), ?_⟩
        rw [List.map_append]; rfl
    · have hc : ¬ (0 < n ∧ mix (cell ns (k + n) + 101 * n) 9941 4 = 0) := by simpa using e
      refine ss_one (st_append 4 rfl (ev_call D_law_row hr (ea_cons (ev_var 6) (ea_cons (ev_var 2) ea_nil)) ⟨_, _, rfl, h1, h2, rfl⟩) (by rw [List.length_map]; exact small (by omega)) ?_)
      have e2 : lotStep ns k w z n = z ++ [rowF (cell ns (k + n) + 101 * n) w] := if_neg hc
      rw [e2, List.length_append, List.length_singleton, hz]
      refine ⟨rfl, .dat (.int n), .dat (.int (cell ns (k + n) + 101 * n)), ?_⟩
      rw [List.map_append]; rfl
  · obtain ⟨s5, s6, rfl⟩ := h
    exact ss_ret (ev_tupO B 4) rfl
theorem sc_law_bad_row : FnScope ["_law_row_here", "_law_cell_here", "_law_at", "_law_some"] ["_law_row_here", "_law_cell_here"] (defScope s_law_bad_row) := ⟨rfl, rfl, rfl, by decide +kernel, rfl, by decide +kernel, by decide +kernel⟩
def badL (r : List Int) (c : Int) : List PyData :=
  let i := (c % r.length).toNat
  [.tuple (r.map .int ++ [.int 0]), .tuple ((r.map .int).drop 1), rowL r, .tuple ((r.map .int).take i ++ [.none] ++ (r.map .int).drop (i + 1)), .tuple ((r.map .int).take i ++ [.bool true] ++ (r.map .int).drop (i + 1)), .none,
    .tuple ((r.map .int).take i ++ [.str "1"] ++ (r.map .int).drop (i + 1)), .tuple ((r.map .int).take i ++ [.tuple [.int 1]] ++ (r.map .int).drop (i + 1)), .int 7, .str "row", .tuple [rowT r]]
def badF (r : List Int) (c : Int) : PyData := (badL r c).getD (c / 8 % 11).toNat .none
def semBad (sl : List Sl) (d : PyData) : Prop := ∃ r c, sl = [.dat (rowT r), .dat (.int c)] ∧ 0 < r.length ∧ r.length ≤ 100 ∧ d = badF r c
theorem df_law_bad_row {f : Addr} {fd : FuncData} (F : Fun K "_law_bad_row" "_law_bad_row" s_law_bad_row f fd) (hmg : mg "_law_bad_row" = some (.ref f)) (B : Bt mg) : Df P w K mg base T 41 "_law_bad_row" 2 semBad := by
  refine df_mk F sc_law_bad_row hmg (F.binds fun _ _ _ _ _ _ us hl => match us, hl with | [_, _], _ => rfl) fun cdv A outer s H E sl d hr hl hs => ?_
  obtain ⟨r, c, rfl, h0, h1, rfl⟩ := hs
  have a0 := Int.emod_nonneg c (show (r.length : Int) ≠ 0 by omega)
  have a1 := Int.emod_lt_of_pos c (show (0 : Int) < r.length by omega)
  refine ss_set 2 sc_law_bad_row.nd (ev_mod (ev_var 1) (ev_lenT B (ev_var 0)) (by rw [List.length_map]; omega)) ?_
  rw [List.length_map]
  have k1 : cutG (r.map PyData.int) none (some (c % r.length)) = (r.map PyData.int).take (c % r.length).toNat := cutG_take a0 (by rw [List.length_map]; omega)
  have k2 : cutG (r.map PyData.int) (some (c % r.length + 1)) none = (r.map PyData.int).drop ((c % r.length).toNat + 1) := by
    rw [cutG_drop (by omega) (by rw [List.length_map]; omega), show (c % r.length + 1).toNat = (c % r.length).toNat + 1 by omega]
  have k3 : cutG (r.map PyData.int) (some 1) none = (r.map PyData.int).drop 1 := cutG_drop (by omega) (by rw [List.length_map]; omega)
  have put : ∀ {X : Cx} {p1 p2 p3 p4 p5 p6 p7 p8 p9 p10 p11 p12 p13 : Pos} {ρ : List Sl} {e : Expr} {x : PyData} {k} {j} (e1 : Ev X T ρ (.Name "_law_row_here" p1) (rowT r)) (e1' : Ev X T ρ (.Name "_law_row_here" p7) (rowT r)) (e2 : Ev X T ρ (.Name "_law_at" p2) (.int (c % r.length))) (e2' : Ev X T ρ (.Name "_law_at" p8) (.int (c % r.length))) (e3 : Ev X T ρ (.Tuple [e] k p3) (.tuple [x])),
      Ev X T ρ (.BinOp (.BinOp (.Subscript (.Name "_law_row_here" p1) (.Slice none (some (.Name "_law_at" p2)) none p4) p5) .Add (.Tuple [e] k p3) p6) .Add (.Subscript (.Name "_law_row_here" p7) (.Slice (some (.BinOp (.Name "_law_at" p8) .Add (.Constant (.int 1) j p9) p10)) none none p11) p12) p13) (.tuple ((r.map .int).take (c % r.length).toNat ++ [x] ++ (r.map .int).drop ((c % r.length).toNat + 1))) := by
    intro X p1 p2 p3 p4 p5 p6 p7 p8 p9 p10 p11 p12 p13 ρ e x k j e1 e1' e2 e2' e3
    rw [← k1, ← k2]
    refine ev_catT (ev_catT (ev_cutT e1 eo_none (eo_some e2)) e3 ?_) (ev_cutT e1' (eo_some (ev_add e2' ev_int)) eo_none) ?_
    · rw [k1]; exact smallE (by simp; omega)
    · rw [k1, k2]; exact smallE (by simp; omega)
  refine ss_set 3 sc_law_bad_row.nd (ef_lst (ds := (badL r c).take 6) (ea_cons (ev_catT (ev_var 0) (ev_tup (ds := [.int 0]) (ea_cons ev_int ea_nil) (by decide)) (by simp; exact smallE (by omega))) (ea_cons ((ev_cutT (ev_var 0) (eo_some ev_int) eo_none).eq (by rw [k3])) (ea_cons (ef_listT B (ev_var 0)).ev
    (ea_cons (put (ev_var 0) (ev_var 0) (ev_var 2) (ev_var 2) (ev_tup (ds := [.none]) (ea_cons ev_non ea_nil) (by decide))) (ea_cons (put (ev_var 0) (ev_var 0) (ev_var 2) (ev_var 2) (ev_tup (ds := [.bool true]) (ea_cons ev_bl ea_nil) (by decide))) (ea_cons ev_non ea_nil)))))) (by exact (show 6 ≤ sizeLine by decide))).ev ?_
  refine ss_set 3 sc_law_bad_row.nd (ef_cat (es := (badL r c).drop 6) (ev_var 3) (ef_lst (ea_cons (put (ev_var 0) (ev_var 0) (ev_var 2) (ev_var 2) (ev_tup (ds := [.str "1"]) (ea_cons ev_str ea_nil) (by decide))) (ea_cons (put (ev_var 0) (ev_var 0) (ev_var 2) (ev_var 2) (ev_tup (ds := [.tuple [.int 1]]) (ea_cons (ev_tup (ds := [.int 1]) (ea_cons ev_int ea_nil) (by decide)) ea_nil) (by decide)))
    (ea_cons ev_int (ea_cons ev_str (ea_cons (ev_tup (ds := [rowT r]) (ea_cons (ev_var 0) ea_nil) (by exact (show 1 ≤ sizeLine by decide))) ea_nil))))) (by exact (show 5 ≤ sizeLine by decide))).ev (by exact (show 6 + 5 ≤ sizeLine by decide))).ev ?_
  rw [List.take_append_drop]
  have b0 := Int.emod_nonneg (c / 8) (show (11 : Int) ≠ 0 by decide)
  have b1 := Int.emod_lt_of_pos (c / 8) (show (0 : Int) < 11 by decide)
  refine ss_ret (ev_ixL (ev_var 3) (ev_mod (ev_fdivS (ev_var 1) ev_int ⟨by decide, by decide +kernel⟩) (ev_lenL B (ev_var 3)) (by exact (show (0 : Int) < 11 by decide))) (d := badF r c) ?_) rfl
  have hlt : (c / 8 % 11).toNat < (badL r c).length := by
    show _ < 11
    omega
  have e : (badL r c)[(c / 8 % 11).toNat]? = some (badF r c) := by
    unfold badF
    rw [List.getD_eq_getElem?_getD, List.getElem?_eq_getElem hlt]; rfl
  have h := atI_map (f := fun x : PyData => x) (i := c / 8 % 11) b0 e
  rw [List.map_id'] at h
  exact h
theorem all_ints (r : List Int) : (r.map PyData.int).all isInt = true := by
  rw [List.all_map]
  exact List.all_eq_true.mpr fun _ _ => rfl
theorem row_good {r : List Int} {w : Int} (h : (r.length : Int) = w) : isRowD (rowT r) w = true := by
  show (decide (((r.map PyData.int).length : Int) = w) && (r.map PyData.int).all isInt) = true
  rw [all_ints, List.length_map, decide_eq_true h]; rfl
theorem all_mid {xs ys : List PyData} {x : PyData} (h : isInt x = false) : (xs ++ [x] ++ ys).all isInt = false := by
  rw [List.all_append, List.all_append]
  simp [h]
theorem bad_cases {P : PyData → Prop} {r : List Int} {c : Int} (h : ∀ x ∈ badL r c, P x) : P (badF r c) := by
  have b0 := Int.emod_nonneg (c / 8) (show (11 : Int) ≠ 0 by decide)
  have b1 := Int.emod_lt_of_pos (c / 8) (show (0 : Int) < 11 by decide)
  have hlt : (c / 8 % 11).toNat < (badL r c).length := by
    show _ < 11
    omega
  unfold badF
  rw [List.getD_eq_getElem?_getD, List.getElem?_eq_getElem hlt]
  exact h _ (List.getElem_mem hlt)
theorem row_bad {r : List Int} {c w : Int} (hw : 0 < w) (h : (r.length : Int) = w) : isRowD (badF r c) w = false := by
  refine bad_cases (P := fun x => isRowD x w = false) fun x hx => ?_
  unfold badL at hx
  simp only [List.mem_cons, List.not_mem_nil, or_false] at hx
  have len : ∀ ds : List PyData, (ds.length : Int) ≠ w → isRowD (.tuple ds) w = false := fun ds h => by
    show (decide ((ds.length : Int) = w) && _) = false
    rw [decide_eq_false h]; rfl
  have alls : ∀ ds : List PyData, ds.all isInt = false → isRowD (.tuple ds) w = false := fun ds h => by
    show (decide ((ds.length : Int) = w) && ds.all isInt) = false
    rw [h, Bool.and_false]
  rcases hx with rfl | rfl | rfl | rfl | rfl | rfl | rfl | rfl | rfl | rfl | rfl
  · exact len _ (by simp; omega)
  · exact len _ (by simp; omega)
  · rfl
  · exact alls _ (all_mid rfl)
  · exact alls _ (all_mid rfl)
  · rfl
  · exact alls _ (all_mid rfl)
  · exact alls _ (all_mid rfl)
  · rfl
  · rfl
  · exact alls _ rfl
theorem bad_len {r : List Int} {c : Int} (h : r.length ≤ 100) : lenD (badF r c) ≤ 1000 := by
  refine bad_cases (P := fun x => lenD x ≤ 1000) fun x hx => ?_
  unfold badL at hx
  simp only [List.mem_cons, List.not_mem_nil, or_false] at hx
  rcases hx with rfl | rfl | rfl | rfl | rfl | rfl | rfl | rfl | rfl | rfl | rfl <;> simp [lenD] <;> omega
theorem lot_put {ds : List PyData} {x : PyData} {w : Int} {n : Nat} (hl : ds.length ≤ 7) (hd : ∀ y ∈ ds, isRowD y w = true) : isLotD (.tuple (ds.take n ++ [x] ++ ds.drop n)) w = isRowD x w := by
  show (decide (((ds.take n ++ [x] ++ ds.drop n).length : Int) ≤ 8) && (ds.take n ++ [x] ++ ds.drop n).all fun x => isRowD x w) = isRowD x w
  have e : (ds.take n ++ [x] ++ ds.drop n).length = ds.length + 1 := by simp; omega
  rw [e, decide_eq_true (by omega), List.all_append, List.all_append]
  have a1 : ((ds.take n).all fun x => isRowD x w) = true := List.all_eq_true.mpr fun y hy => hd y (List.mem_of_mem_take hy)
  have a2 : ((ds.drop n).all fun x => isRowD x w) = true := List.all_eq_true.mpr fun y hy => hd y (List.mem_of_mem_drop hy)
  rw [a1, a2]
  simp
theorem sc_law : FnScope ["_law_script", "_law_wide_here", "_law_lot_here", "_law_cell_here", "_law_row_here", "_law_bad", "_law_at", "_law_k"] ["_law_script"] (defScope s_law) := ⟨rfl, rfl, rfl, by decide +kernel, rfl, by decide +kernel, by decide +kernel⟩
theorem fo_law {f : Addr} {fd : FuncData} (F : Fun K "law" "law" s_law f fd) (B : Bt mg) (D_is_row : Df P w K mg base T 42 "is_row" 2 semIsRow) (D_is_lot : Df P w K mg base T 43 "is_lot" 2 semIsLot) (D_law_cell : Df P w K mg base T 41 "_law_cell" 2 semCell) (D_law_row : Df P w K mg base T 42 "_law_row" 2 semRow) (D_law_wide : Df P w K mg base T 42 "_law_wide" 2 semWide) (D_law_lot : Df P w K mg base T 43 "_law_lot" 4 semLot)
    (D_law_bad_row : Df P w K mg base T 41 "_law_bad_row" 2 semBad) :
    FnOk P w K mg base CX0 50 f fd ["_law_script"] (spD K T 1 semLaw) := by
  refine fo_mk F sc_law fun cdv A outer s H E sl d hr hl hs => ?_
  obtain ⟨⟨ns, rfl, hns⟩, rfl⟩ := hs
  have hw : 1 ≤ wideF ns 4 ∧ wideF ns 4 ≤ 4 := by
    have w0 := mix_lo (c := cell ns 0) (p := 9967) (m := 4) (by decide)
    have w1 := mix_hi (c := cell ns 0) (p := 9967) (m := 4) (by decide)
    unfold wideF; omega
  have hlen : (lotF ns 1 (wideF ns 4) 4).length ≤ 4 := by
    unfold lotF
    rw [lotF_len, rng_len]
    have := mix_hi (c := cell ns 1) (p := 9949) (m := 4 + 1) (by decide)
    have := mix_lo (c := cell ns 1) (p := 9949) (m := 4 + 1) (by decide)
    simp only [List.length_nil]
    omega
  refine ss_set 1 sc_law.nd (ev_call D_law_wide hr (ea_scr 0 (ea_cons ev_int ea_nil)) ⟨_, _, rfl, by decide, rfl⟩) ?_
  refine ss_set 2 sc_law.nd (ev_call D_law_lot hr (ea_scr 0 (ea_cons ev_int (ea_cons (ev_var 1) (ea_cons ev_int ea_nil)))) ⟨_, _, _, _, rfl, by decide, by omega, by omega, by decide, by decide, rfl⟩) ?_
  generalize wideF ns 4 = wd at hw hlen
  have hrows : ∀ r ∈ lotF ns 1 wd 4, r.length = wd.toNat := lotF_rows _ _ fun r h => by cases h
  generalize lotF ns 1 wd 4 = lot at hrows hlen
  have hgood : ∀ y ∈ lot.map rowT, isRowD y wd = true := fun y hy => by
    obtain ⟨r, hr, rfl⟩ := List.mem_map.mp hy
    exact row_good (by have := hrows r hr; omega)
  have hlenD : ∀ y ∈ lot.map rowT, lenD y ≤ 1000 := fun y hy => by
    obtain ⟨r, hr, rfl⟩ := List.mem_map.mp hy
    show (r.map PyData.int).length ≤ 1000
    rw [List.length_map, hrows r hr]; omega
  refine ss_cons (M := fun ρ => ∃ s3 s4 s5 s6, ρ = [.scr ns, .dat (.int wd), .dat (lotT lot), s3, s4, s5, s6, .no]) ?_ fun ρ' h => ?_
  · refine st_for pass_nox rfl (ei_list (ef_cutS 0 rfl (eo_some ev_int) (eo_some ev_int)).ev) (eg_name 3 sc_law.nd) (fun _ ρ => ∃ s3 s4 s5 s6, ρ = [.scr ns, .dat (.int wd), .dat (lotT lot), s3, s4, s5, s6, .no]) ⟨_, _, _, _, rfl⟩ (fun i d ρ1 hi hρ => ?_) fun ρ' h => h
    obtain ⟨s3, s4, s5, s6, rfl⟩ := hρ
    rw [List.getElem?_map] at hi
    obtain ⟨c, _, rfl⟩ := Option.map_eq_some_iff.mp hi
    refine ⟨_, rfl, ?_⟩
    refine ss_set 4 sc_law.nd (ev_call D_law_row hr (ea_cons (ev_var 3) (ea_cons (ev_var 1) ea_nil)) ⟨_, _, rfl, by omega, by omega, rfl⟩) ?_
    have lrow : (rowF c wd).length = wd.toNat := rowF_len _ _
    generalize rowF c wd = row at lrow
    refine ss_set 5 sc_law.nd (ev_call D_law_bad_row hr (ea_cons (ev_var 4) (ea_cons (ev_var 3) ea_nil)) ⟨_, _, rfl, by omega, by omega, rfl⟩) ?_
    have g1 : isRowD (rowT row) wd = true := row_good (by omega)
    have g2 : isRowD (badF row c) wd = false := row_bad (by omega) (by omega)
    have g3 : lenD (badF row c) ≤ 1000 := bad_len (by omega)
    have g4 : lenD (rowT row) ≤ 1000 := by
      show (row.map PyData.int).length ≤ 1000
      rw [List.length_map]; omega
    generalize badF row c = bad at g2 g3
    refine ss_ifRet (Ew.et (ew_orB (cmp_isnotB.et (ev_call D_is_row hr (ea_cons (ev_var 4) (ea_cons (ev_var 1) ea_nil)) ⟨_, _, rfl, g4, rfl⟩) ev_bl) fun _ => ew_or1 (cmp_isnotB.et (ev_call D_is_row hr (ea_cons (ev_var 5) (ea_cons (ev_var 1) ea_nil)) ⟨_, _, rfl, g3, rfl⟩) ev_bl))) (fun h => ?_) fun _ => ?_
    · rw [g1, g2] at h; simp at h
    have a0 := Int.emod_nonneg c (show ((lot.length + 1 : Nat) : Int) ≠ 0 by omega)
    have a1 := Int.emod_lt_of_pos c (show (0 : Int) < ((lot.length + 1 : Nat) : Int) by omega)
    refine ss_set 6 sc_law.nd (ev_mod (ev_var 3) (ev_add (ev_lenT B (ev_var 2)) ev_int) (by rw [List.length_map]; omega)) ?_
    rw [List.length_map, show ((lot.length : Nat) : Int) + 1 = ((lot.length + 1 : Nat) : Int) by omega]
    have k1 : cutG (lot.map rowT) none (some (c % ((lot.length + 1 : Nat) : Int))) = (lot.map rowT).take (c % ((lot.length + 1 : Nat) : Int)).toNat := cutG_take a0 (by rw [List.length_map]; omega)
    have k2 : cutG (lot.map rowT) (some (c % ((lot.length + 1 : Nat) : Int))) none = (lot.map rowT).drop (c % ((lot.length + 1 : Nat) : Int)).toNat := cutG_drop a0 (by rw [List.length_map]; omega)
    have put : ∀ (x : PyData), lenD x ≤ 1000 → lenD (.tuple ((lot.map rowT).take (c % ((lot.length + 1 : Nat) : Int)).toNat ++ [x] ++ (lot.map rowT).drop (c % ((lot.length + 1 : Nat) : Int)).toNat)) ≤ 1000 ∧
        ∀ y ∈ itemsD (.tuple ((lot.map rowT).take (c % ((lot.length + 1 : Nat) : Int)).toNat ++ [x] ++ (lot.map rowT).drop (c % ((lot.length + 1 : Nat) : Int)).toNat)), lenD y ≤ 1000 := fun x hx => by
      refine ⟨by simp [lenD]; omega, fun y hy => ?_⟩
      rcases List.mem_append.mp hy with hy | hy
      · rcases List.mem_append.mp hy with hy | hy
        · exact hlenD y (List.mem_of_mem_take hy)
        · rw [List.mem_singleton.mp hy]; exact hx
      · exact hlenD y (List.mem_of_mem_drop hy)
    have l7 : (lot.map rowT).length ≤ 7 := by rw [List.length_map]; omega
    refine ss_ifRet (cmp_isnotB.et (ev_call D_is_lot hr (ea_cons ((ev_catT (ev_catT (ev_cutT (ev_var 2) eo_none (eo_some (ev_var 6))) (ev_tup (ds := [rowT row]) (ea_cons (ev_var 4) ea_nil) (by exact (show 1 ≤ sizeLine by decide))) (by rw [k1]; exact smallE (by simp; omega))) (ev_cutT (ev_var 2) (eo_some (ev_var 6)) eo_none) (by rw [k1, k2]; exact smallE (by simp; omega))).eq (by rw [k1, k2])) (ea_cons (ev_var 1) ea_nil)) ⟨_, _, rfl, (put _ g4).1, (put _ g4).2, rfl⟩) ev_bl) (fun h => ?_) fun _ => ?_
    · rw [lot_put l7 hgood, g1] at h; simp at h
    refine ss_ifRet (cmp_isnotB.et (ev_call D_is_lot hr (ea_cons ((ev_catT (ev_catT (ev_cutT (ev_var 2) eo_none (eo_some (ev_var 6))) (ev_tup (ds := [bad]) (ea_cons (ev_var 5) ea_nil) (by exact (show 1 ≤ sizeLine by decide))) (by rw [k1]; exact smallE (by simp; omega))) (ev_cutT (ev_var 2) (eo_some (ev_var 6)) eo_none) (by rw [k1, k2]; exact smallE (by simp; omega))).eq (by rw [k1, k2])) (ea_cons (ev_var 1) ea_nil)) ⟨_, _, rfl, (put _ g3).1, (put _ g3).2, rfl⟩) ev_bl) (fun h => ?_) fun _ => ?_
    · rw [lot_put l7 hgood, g2] at h; simp at h
    exact ss_nil ⟨_, _, _, _, rfl⟩
  · obtain ⟨s3, s4, s5, s6, rfl⟩ := h
    refine ss_set 4 sc_law.nd (ev_call D_law_row hr (ea_cons (ev_call D_law_cell hr (ea_scr 0 (ea_cons ev_int ea_nil)) ⟨_, _, rfl, by decide, rfl⟩) (ea_cons (ev_var 1) ea_nil)) ⟨_, _, rfl, by omega, by omega, rfl⟩) ?_
    have lrow : (rowF (cell ns 1) wd).length = wd.toNat := rowF_len _ _
    generalize rowF (cell ns 1) wd = row at lrow
    have g1 : isRowD (rowT row) wd = true := row_good (by omega)
    have g4 : lenD (rowT row) ≤ 1000 := by
      show (row.map PyData.int).length ≤ 1000
      rw [List.length_map]; omega
    have many : ∀ n : Nat, n ≤ 9 → lenD (lotT ((rng 0 n).map fun _ => row)) ≤ 1000 ∧ (∀ y ∈ itemsD (lotT ((rng 0 n).map fun _ => row)), lenD y ≤ 1000) ∧ isLotD (lotT ((rng 0 n).map fun _ => row)) wd = decide ((n : Int) ≤ 8) := fun n hn => by
      have hl : (((rng 0 n).map fun _ => row).map rowT).length = n := by rw [List.length_map, List.length_map, rng_len]
      have hm : ∀ y ∈ ((rng 0 n).map fun _ => row).map rowT, y = rowT row := fun y hy => by
        obtain ⟨r, h1, rfl⟩ := List.mem_map.mp hy
        obtain ⟨_, _, rfl⟩ := List.mem_map.mp h1
        rfl
      refine ⟨by show (((rng 0 n).map fun _ => row).map rowT).length ≤ 1000; omega, fun y hy => by rw [hm y hy]; exact g4, ?_⟩
      show (decide (((((rng 0 n).map fun _ => row).map rowT).length : Int) ≤ 8) && (((rng 0 n).map fun _ => row).map rowT).all fun x => isRowD x wd) = _
      rw [hl, List.all_eq_true.mpr fun y hy => by rw [hm y hy]; exact g1, Bool.and_true]
    refine ss_ifRet (Ew.et (ew_orB (cmp_isnotB.et (ev_call D_is_lot hr (ea_cons (ev_tupL B (ef_lcE rowT (f := fun _ : Int => row) [("_law_k", 7)] rfl sc_law.nd (blkOk_by (by kernel_rfl)) (ei_range1 B ev_int (by decide)) (by rw [rng_len]; decide) (fun _ _ _ _ _ => eg_name 7 sc_law.nd) (by decide) (fun _ _ => rfl)
      fun _ _ _ _ _ x hx => ev_var 4).ev) (ea_cons (ev_var 1) ea_nil)) ⟨_, _, rfl, (many 9 (by decide)).1, (many 9 (by decide)).2.1, rfl⟩) ev_bl) fun _ =>
        ew_or1 (cmp_isnotB.et (ev_call D_is_lot hr (ea_cons (ef_listT B (ev_var 2)).ev (ea_cons (ev_var 1) ea_nil)) ⟨_, _, rfl, by show (lot.map rowT).length ≤ 1000; rw [List.length_map]; omega, fun y hy => (by cases hy), rfl⟩) ev_bl))) (fun h => ?_) fun _ => ?_
    · have e : isLotD (lotT ((rng 0 (9 : Int).toNat).map fun _ => row)) wd = false := (many 9 (by decide)).2.2
      rw [e] at h
      simp [Rw.isLotD] at h
    refine ss_ifRet (Ew.et (ew_orB (cmp_isnotB.et (ev_call D_is_lot hr (ea_cons (ev_tup (ds := []) ea_nil (Nat.zero_le _)) (ea_cons (ev_var 1) ea_nil)) ⟨_, _, rfl, Nat.zero_le _, fun y hy => (by cases hy), rfl⟩) ev_bl) fun _ =>
        ew_or1 (cmp_isnotB.et (ev_call D_is_lot hr (ea_cons ev_non (ea_cons (ev_var 1) ea_nil)) ⟨_, _, rfl, Nat.zero_le _, fun y hy => (by cases hy), rfl⟩) ev_bl))) (fun h => ?_) fun _ => ?_
    · simp [Rw.isLotD] at h
    refine ss_ret (cmp_isB.ev (ev_call D_is_lot hr (ea_cons (ev_tupL B (ef_lcE rowT (f := fun _ : Int => row) [("_law_k", 7)] rfl sc_law.nd (blkOk_by (by kernel_rfl)) (ei_range1 B ev_int (by decide)) (by rw [rng_len]; decide) (fun _ _ _ _ _ => eg_name 7 sc_law.nd) (by decide) (fun _ _ => rfl)
      fun _ _ _ _ _ x hx => ev_var 4).ev) (ea_cons (ev_var 1) ea_nil)) ⟨_, _, rfl, (many 8 (by decide)).1, (many 8 (by decide)).2.1, rfl⟩) ev_bl) ?_
    have e : isLotD (lotT ((rng 0 (8 : Int).toNat).map fun _ => row)) wd = true := (many 8 (by decide)).2.2
    show PyData.bool _ = .bool true
    rw [e]; rfl
end
theorem all_mk {l : PySem.W.OpenLaw} {w : World} {K : PySem.W.Frag} {h : Heap} {mg : Str → Option Value} {fa : Addr} (X : K.In h) (G : h.Ns mainGlobals mg) (hfa : mg "law" = some (.ref fa)) (b : BtIn K) (d_is_number : DefIn K "is_number" s_is_number) (d_is_row : DefIn K "is_row" s_is_row) (d_is_lot : DefIn K "is_lot" s_is_lot) (d_law_cell : DefIn K "_law_cell" s_law_cell) (d_law_mix : DefIn K "_law_mix" s_law_mix) (d_law_row : DefIn K "_law_row" s_law_row) (d_law_sum : DefIn K "_law_sum" s_law_sum) (d_law_wide : DefIn K "_law_wide" s_law_wide) (d_law_lot : DefIn K "_law_lot" s_law_lot) (d_law_bad_row : DefIn K "_law_bad_row" s_law_bad_row) (d_law : DefIn K "law" s_law) :
    ∃ fd : FuncData, (∀ (s : Shared) (v : Value), BindsTo s fd ⟨[v], []⟩ [("_law_script", v)]) ∧ ∀ base : Heap, K.In base → base.Ns mainGlobals mg → FnOk l.prog w K mg base CX0 50 fa fd ["_law_script"] (spD K [] 1 semLaw) := by
  have B := b.bt X G
  obtain ⟨f_is_number, fd_is_number, F_is_number, m_is_number⟩ := d_is_number.fn X G
  obtain ⟨f_is_row, fd_is_row, F_is_row, m_is_row⟩ := d_is_row.fn X G
  obtain ⟨f_is_lot, fd_is_lot, F_is_lot, m_is_lot⟩ := d_is_lot.fn X G
  obtain ⟨f_law_cell, fd_law_cell, F_law_cell, m_law_cell⟩ := d_law_cell.fn X G
  obtain ⟨f_law_mix, fd_law_mix, F_law_mix, m_law_mix⟩ := d_law_mix.fn X G
  obtain ⟨f_law_row, fd_law_row, F_law_row, m_law_row⟩ := d_law_row.fn X G
  obtain ⟨f_law_sum, fd_law_sum, F_law_sum, m_law_sum⟩ := d_law_sum.fn X G
  obtain ⟨f_law_wide, fd_law_wide, F_law_wide, m_law_wide⟩ := d_law_wide.fn X G
  obtain ⟨f_law_lot, fd_law_lot, F_law_lot, m_law_lot⟩ := d_law_lot.fn X G
  obtain ⟨f_law_bad_row, fd_law_bad_row, F_law_bad_row, m_law_bad_row⟩ := d_law_bad_row.fn X G
  obtain ⟨fl, oc, od, an, osl, kV, doc, pm, cdv, ct, a, l1, c, k⟩ := d_law
  have e := hfa.symm.trans (PySem.W.mg_of X G a)
  cases e
  have F_law := fun_mk (st := s_law) l1 c k
  refine ⟨PySem.W.fnOf "law" "law" (defArgs s_law) (defBody s_law) (defScope s_law) .none kV doc pm an cdv ct, fun s v => .of_eq rfl, fun base hK hN => ?_⟩
  have D_is_number := df_is_number (P := l.prog) (w := w) (base := base) (T := []) F_is_number m_is_number B 
  have D_is_row := df_is_row (P := l.prog) (w := w) (base := base) (T := []) F_is_row m_is_row B D_is_number
  have D_is_lot := df_is_lot (P := l.prog) (w := w) (base := base) (T := []) F_is_lot m_is_lot B D_is_row
  have D_law_cell := df_law_cell (P := l.prog) (w := w) (base := base) (T := []) F_law_cell m_law_cell B 
  have D_law_mix := df_law_mix (P := l.prog) (w := w) (base := base) (T := []) F_law_mix m_law_mix B 
  have D_law_row := df_law_row (P := l.prog) (w := w) (base := base) (T := []) F_law_row m_law_row B D_law_mix
  have D_law_sum := df_law_sum (P := l.prog) (w := w) (base := base) (T := []) F_law_sum m_law_sum B 
  have D_law_wide := df_law_wide (P := l.prog) (w := w) (base := base) (T := []) F_law_wide m_law_wide B D_law_cell D_law_mix
  have D_law_lot := df_law_lot (P := l.prog) (w := w) (base := base) (T := []) F_law_lot m_law_lot B D_law_cell D_law_mix D_law_row D_law_sum
  have D_law_bad_row := df_law_bad_row (P := l.prog) (w := w) (base := base) (T := []) F_law_bad_row m_law_bad_row B 
  exact fo_law F_law B D_is_row D_is_lot D_law_cell D_law_row D_law_wide D_law_lot D_law_bad_row
end Wk
open PySem PySem.W PyProof.Rows
set_option maxRecDepth 100000 in
set_option maxHeartbeats 0 in
theorem PySem.Challenge.cw_rowwright_k01_rows_and_lots_holds : PySem.Challenge.rw_rowwright_k01_rows_and_lots.Holds := by
  w_on; o_law; k_head; (case hw => w_witness2)
  k_fill
  refine L2.walk_of (l := PySem.Challenge.rw_rowwright_k01_rows_and_lots) (n := 63) (k := 50) (x := "_law_script") (CX := fun _ => L2.CX0) (sp := fun w => Rw.spD _ [] 1 Rw.semLaw) rfl (by decide) rfl ⟨rfl, by decide, by decide⟩ (fun w h Y => PySem.W.kIn_of Y) ?F (fun _ _ a ns hl hO hS => Rw.law_sp hl hO hS) (fun _ _ _ _ _ h => h)
  case F =>
    intro w mg fa h KX G hmg
    refine' Wk.all_mk KX G hmg ?b ?d0 ?d1 ?d2 ?d3 ?d4 ?d5 ?d6 ?d7 ?d8 ?d9 ?d10
    (case b => (refine' ⟨?_, ?_, ?_, ?_, ?_, ?_, ?_, ?_, ?_, ?_, ?_, ?_, ?_, ?_, ?_⟩) <;> k_is)
    (case d0 => refine' Rw.DefIn.mk ?a ?l ?c ?k; (case a => k_is); (case l => k_is); (case c => k_is); (case k => k_is))
    (case d1 => refine' Rw.DefIn.mk ?a ?l ?c ?k; (case a => k_is); (case l => k_is); (case c => k_is); (case k => k_is))
    (case d2 => refine' Rw.DefIn.mk ?a ?l ?c ?k; (case a => k_is); (case l => k_is); (case c => k_is); (case k => k_is))
    (case d3 => refine' Rw.DefIn.mk ?a ?l ?c ?k; (case a => k_is); (case l => k_is); (case c => k_is); (case k => k_is))
    (case d4 => refine' Rw.DefIn.mk ?a ?l ?c ?k; (case a => k_is); (case l => k_is); (case c => k_is); (case k => k_is))
    (case d5 => refine' Rw.DefIn.mk ?a ?l ?c ?k; (case a => k_is); (case l => k_is); (case c => k_is); (case k => k_is))
    (case d6 => refine' Rw.DefIn.mk ?a ?l ?c ?k; (case a => k_is); (case l => k_is); (case c => k_is); (case k => k_is))
    (case d7 => refine' Rw.DefIn.mk ?a ?l ?c ?k; (case a => k_is); (case l => k_is); (case c => k_is); (case k => k_is))
    (case d8 => refine' Rw.DefIn.mk ?a ?l ?c ?k; (case a => k_is); (case l => k_is); (case c => k_is); (case k => k_is))
    (case d9 => refine' Rw.DefIn.mk ?a ?l ?c ?k; (case a => k_is); (case l => k_is); (case c => k_is); (case k => k_is))
    (case d10 => refine' Rw.DefIn.mk ?a ?l ?c ?k; (case a => k_is); (case l => k_is); (case c => k_is); (case k => k_is))
