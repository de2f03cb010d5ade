import PyProof.Rows.All
import Wide.All
import OpenK.AllK
import Wide.FinOn
import KE.KStateDown
import HandS.ForMost
import HandS.More
import HandS.Exc
import HandS.TryOnly
import HandS.TryMany
import HandS.ExcOwn
import HandS.WordsExc
import HandS.Defaults
import HandS.IsInst
import HandS.CallSlots
import HandS.Flow
import HandS.Strs
import HandS.Conv
import HandS.SetKeys
import HandS.Head0
import HandS.Head1
import HandS.Head2
import HandS.HeadEnd
import HandS.HeadHook1
import HandS.HeadHook2
import HandS.HeadHook3
import HandS.HeadHook4
import HandS.HeadWalk
import HandS.TupAny
import HandS.Deep
import HandS.SetFor
import HandS.FltList
import PySem.Challenge.RW_waxcloth_k11_why_they_clash
set_option Elab.async false
set_option linter.all false
set_option maxRecDepth 100000
set_option maxHeartbeats 0
namespace Wx
open PySem PySem.Spec PyProof.Rows L2

/-! ### data in a heap that only grows -/
mutual
inductive Rp (G : Hp) : V → PyData → Prop
  | non : Rp G .non .none
  | bl (b : Bool) : Rp G (.bl b) (.bool b)
  | int (i : Int) : Rp G (.int i) (.int i)
  | str (x : Str) : Rp G (.str x) (.str x)
  | lst {a : Addr} {xs : List V} {ds : List PyData} : G a = some (.lst xs) → RpAll G xs ds → Rp G (.ref a) (.list ds)
  | tup {a : Addr} {xs : List V} {ds : List PyData} : G a = some (.tup xs) → RpAll G xs ds → Rp G (.ref a) (.tuple ds)
inductive RpAll (G : Hp) : List V → List PyData → Prop
  | nil : RpAll G [] []
  | cons {v : V} {vs : List V} {d : PyData} {ds : List PyData} : Rp G v d → RpAll G vs ds → RpAll G (v :: vs) (d :: ds)
end
mutual
theorem rp_mono {G G' : Hp} (e : Same G G') : ∀ (d : PyData) (v : V), Rp G v d → Rp G' v d
  | .none, _, h => by cases h; exact .non
  | .bool b, _, h => by cases h; exact .bl b
  | .int i, _, h => by cases h; exact .int i
  | .str x, _, h => by cases h; exact .str x
  | .list ds, _, h => by
    cases h with
    | lst hs ha => exact .lst (e _ _ hs) (rps_mono e ds _ ha)
  | .tuple ds, _, h => by
    cases h with
    | tup hs ha => exact .tup (e _ _ hs) (rps_mono e ds _ ha)
  | .dict _, _, h => by cases h
theorem rps_mono {G G' : Hp} (e : Same G G') : ∀ (ds : List PyData) (vs : List V), RpAll G vs ds → RpAll G' vs ds
  | [], _, h => by cases h; exact .nil
  | d :: ds, _, h => by
    cases h with
    | cons h1 h2 => exact .cons (rp_mono e d _ h1) (rps_mono e ds _ h2)
end
mutual
theorem rp_dp {K : PySem.W.Frag} {G H : Hp} (e : Same G H) : ∀ (d : PyData) (v : V), Rp G v d → Dp K H v d
  | .none, _, h => by cases h; exact .non
  | .bool b, _, h => by cases h; exact .bl b
  | .int i, _, h => by cases h; exact .int i
  | .str x, _, h => by cases h; exact .str x
  | .list ds, _, h => by
    cases h with
    | lst hs ha => exact .lst (SqL.of (e _ _ hs)) (rps_dp e ds _ ha)
  | .tuple ds, _, h => by
    cases h with
    | tup hs ha => exact .tup (SqT.of (e _ _ hs)) (rps_dp e ds _ ha)
  | .dict _, _, h => by cases h
theorem rps_dp {K : PySem.W.Frag} {G H : Hp} (e : Same G H) : ∀ (ds : List PyData) (vs : List V), RpAll G vs ds → DpAll K H vs ds
  | [], _, h => by cases h; exact .nil
  | d :: ds, _, h => by
    cases h with
    | cons h1 h2 => exact .cons (rp_dp e d _ h1) (rps_dp e ds _ h2)
end
theorem Rp.up {G G' : Hp} {d : PyData} {v : V} (h : Rp G v d) (e : Same G G') : Rp G' v d := rp_mono e d v h
theorem Rp.dp {K : PySem.W.Frag} {G H : Hp} {d : PyData} {v : V} (h : Rp G v d) (e : Same G H) : Dp K H v d := rp_dp e d v h
theorem RpAll.up {G G' : Hp} {d : List PyData} {v : List V} (h : RpAll G v d) (e : Same G G') : RpAll G' v d := rps_mono e d v h
theorem RpAll.length {G : Hp} : ∀ {xs : List V} {ds : List PyData}, RpAll G xs ds → xs.length = ds.length
  | [], [], _ => rfl
  | _ :: _, _ :: _, .cons _ t => by rw [List.length_cons, List.length_cons, RpAll.length t]
theorem RpAll.at {G : Hp} : ∀ {xs : List V} {ds : List PyData} {i : Nat} {d : PyData}, RpAll G xs ds → ds[i]? = some d → ∃ v, xs[i]? = some v ∧ Rp G v d
  | _, _, _, _, .nil, e => by simp at e
  | _, _, 0, _, .cons r _, e => by simp at e; subst e; exact ⟨_, rfl, r⟩
  | _, _, i + 1, d, .cons _ t, e => by
    obtain ⟨u, h1, h2⟩ := RpAll.at (i := i) (d := d) t (by simpa using e)
    exact ⟨u, by simpa using h1, h2⟩
theorem RpAll.of_at {G : Hp} : ∀ {xs : List V} {ds : List PyData} {i : Nat} {v : V}, RpAll G xs ds → xs[i]? = some v → ∃ d, ds[i]? = some d ∧ Rp G v d
  | _, _, _, _, .nil, e => by simp at e
  | _, _, 0, _, .cons r _, e => by simp at e; subst e; exact ⟨_, rfl, r⟩
  | _, _, i + 1, d, .cons _ t, e => by
    obtain ⟨u, h1, h2⟩ := RpAll.of_at (i := i) (v := d) t (by simpa using e)
    exact ⟨u, by simpa using h1, h2⟩
theorem RpAll.app {G : Hp} : ∀ {xs ys : List V} {ds es : List PyData}, RpAll G xs ds → RpAll G ys es → RpAll G (xs ++ ys) (ds ++ es)
  | _, _, _, _, .nil, s => s
  | _, _, _, _, .cons r t, s => .cons r (RpAll.app t s)
theorem RpAll.tk {G : Hp} : ∀ {xs : List V} {ds : List PyData} (n : Nat), RpAll G xs ds → RpAll G (xs.take n) (ds.take n)
  | _, _, 0, _ => .nil
  | _, _, _ + 1, .nil => .nil
  | _, _, n + 1, .cons r t => .cons r (RpAll.tk n t)
theorem RpAll.dr {G : Hp} : ∀ {xs : List V} {ds : List PyData} (n : Nat), RpAll G xs ds → RpAll G (xs.drop n) (ds.drop n)
  | _, _, 0, r => r
  | _, _, _ + 1, .nil => .nil
  | _, _, n + 1, .cons _ t => RpAll.dr n t
theorem RpAll.st {G : Hp} {x : V} {d : PyData} (r : Rp G x d) : ∀ {xs : List V} {ds : List PyData} (i : Nat), RpAll G xs ds → RpAll G (xs.set i x) (ds.set i d)
  | _, _, _, .nil => .nil
  | _, _, 0, .cons _ t => .cons r t
  | _, _, i + 1, .cons q t => .cons q (RpAll.st r i t)
theorem RpAll.dl {G : Hp} {xs : List V} {ds : List PyData} (h : RpAll G xs ds) : RpAll G xs.dropLast ds.dropLast := by
  rw [List.dropLast_eq_take, List.dropLast_eq_take, h.length]
  exact h.tk _
theorem RpAll.ints {G : Hp} : ∀ {xs : List V} {ns : List Int}, RpAll G xs (ns.map PyData.int) → xs = ns.map V.int
  | [], [], _ => rfl
  | _ :: _, _ :: _, .cons r t => by cases r; rw [List.map_cons, RpAll.ints t]
theorem rps_ints {G : Hp} : ∀ (ns : List Int), RpAll G (ns.map V.int) (ns.map PyData.int)
  | [] => .nil
  | n :: r => .cons (.int n) (rps_ints r)
theorem RpAll.bls {G : Hp} : ∀ {xs : List V} {ns : List Bool}, RpAll G xs (ns.map PyData.bool) → xs = ns.map V.bl
  | [], [], _ => rfl
  | _ :: _, _ :: _, .cons r t => by cases r; rw [List.map_cons, RpAll.bls t]
theorem RpAll.strs {G : Hp} : ∀ {xs : List V} {ns : List Str}, RpAll G xs (ns.map PyData.str) → xs = ns.map V.str
  | [], [], _ => rfl
  | _ :: _, _ :: _, .cons r t => by cases r; rw [List.map_cons, RpAll.strs t]
theorem rps_strs {G : Hp} : ∀ (ns : List Str), RpAll G (ns.map V.str) (ns.map PyData.str)
  | [] => .nil
  | n :: r => .cons (.str n) (rps_strs r)

/-- the law's box at b, its first item the list at a -/
structure Bx where
  b : Addr
  a : Addr
def Off (bx : Option Bx) (x : Addr) : Prop := ∀ z, bx = some z → z.b ≠ x
theorem off_none {x : Addr} : Off none x := fun _ h => nomatch h
/-! ### how the two heaps grow: G what is frozen, H all; bx the law's box, that turns -/
structure Ext (bx : Option Bx) (G H G' H' : Hp) : Prop where
  g : Same G G'
  h : ∀ a o, Off bx a → H a = some o → H' a = some o
  n : ∀ a o, G' a = some o → G a = some o ∨ H a = none
  al : ∀ a o, H a = some o → ∃ o', H' a = some o'
theorem Ext.refl {bx : Option Bx} {G H : Hp} : Ext bx G H G H := ⟨Same.refl G, fun _ _ _ e => e, fun _ _ e => .inl e, fun _ o e => ⟨o, e⟩⟩
theorem Ext.none_of {bx : Option Bx} {G H G' H' : Hp} (e : Ext bx G H G' H') {a : Addr} (h : H' a = none) : H a = none := by
  cases q : H a with
  | none => rfl
  | some o =>
    obtain ⟨o', z⟩ := e.al a o q
    rw [h] at z
    cases z
theorem Ext.trans {bx : Option Bx} {G H G1 H1 G2 H2 : Hp} (e : Ext bx G H G1 H1) (f : Ext bx G1 H1 G2 H2) : Ext bx G H G2 H2 :=
  ⟨e.g.trans f.g, fun a o n q => f.h a o n (e.h a o n q), fun a o q => by
    rcases f.n a o q with z | z
    · exact e.n a o z
    · exact .inr (e.none_of z), fun a o q => by
    obtain ⟨o', z⟩ := e.al a o q
    exact f.al a o' z⟩
theorem Ext.any {bx : Option Bx} {G H G' H' : Hp} (e : Ext none G H G' H') : Ext bx G H G' H' := ⟨e.g, fun a o _ q => e.h a o off_none q, e.n, e.al⟩
theorem Ext.same {G H G' H' : Hp} (e : Ext none G H G' H') : Same H H' := fun a o q => e.h a o off_none q
theorem Ext.of_same {G H H' : Hp} (s : Same H H') : Ext none G H G H' := ⟨Same.refl G, fun a o _ q => s a o q, fun _ _ q => .inl q, fun a o q => ⟨o, s a o q⟩⟩
/-- a new object, frozen at once -/
theorem Ext.new {G H : Hp} {p : Addr} {o : HO} (s : Same G H) (hp : H p = none) : Ext none G H (upd G p o) (upd H p o) := by
  have gp : G p = none := s.free hp
  refine ⟨fun a u e => ?_, fun a u _ e => ?_, fun a u e => ?_, fun a u e => ⟨u, ?_⟩⟩
  · rw [upd_ne (ne_of_none e gp)]; exact e
  · rw [upd_ne (ne_of_none e hp)]; exact e
  · by_cases h : a = p
    · rw [h]; exact .inr hp
    · rw [upd_ne h] at e; exact .inl e
  · rw [upd_ne (ne_of_none e hp)]; exact e
theorem same_new {G H : Hp} {p : Addr} {o : HO} (s : Same G H) : Same (upd G p o) (upd H p o) := fun a u e => by
  by_cases h : a = p
  · rw [h, upd_same] at e ⊢; exact e
  · rw [upd_ne h] at e ⊢; exact s a u e
/-- a new object, not frozen -/
theorem Ext.own {G H : Hp} {p : Addr} {o : HO} (hp : H p = none) : Ext none G H G (upd H p o) :=
  .of_same fun a u e => by rw [upd_ne (ne_of_none e hp)]; exact e
theorem same_own {G H : Hp} {p : Addr} {o : HO} (s : Same G H) (hp : H p = none) : Same G (upd H p o) := fun a u e => by
  rw [upd_ne (ne_of_none (s a u e) hp)]; exact s a u e
/-- an object that was not frozen is -/
theorem Ext.freeze {bx : Option Bx} {G H G' H' : Hp} {p : Addr} {o : HO} (e : Ext bx G H G' H') (hp : H p = none) (gp : G' p = none) : Ext bx G H (upd G' p o) H' := by
  refine ⟨fun a u q => ?_, e.h, fun a u q => ?_, e.al⟩
  · have z := e.g a u q
    rw [upd_ne (ne_of_none z gp)]; exact z
  · by_cases h : a = p
    · rw [h]; exact .inr hp
    · rw [upd_ne h] at q; exact e.n a u q
theorem same_freeze {G H : Hp} {p : Addr} {o : HO} (s : Same G H) (hp : H p = some o) : Same (upd G p o) H := fun a u e => by
  by_cases h : a = p
  · rw [h, upd_same] at e; rw [h, hp]; exact e
  · rw [upd_ne h] at e; exact s a u e

/-- the box: the script's numbers (frozen), the place, what is left of a number, the turn, the seed -/
def BoxOk (z : Bx) (G H : Hp) : Prop :=
  ∃ (ns : List Int) (p q r s : Int), H z.b = some (.lst [.ref z.a, .int p, .int q, .int r, .int s]) ∧ Rp G (.ref z.a) (.list (ns.map .int)) ∧ 0 ≤ p
structure Wo (bx : Option Bx) (G H : Hp) : Prop where
  s : Same G H
  b : ∀ z, bx = some z → G z.b = none ∧ BoxOk z G H
theorem BoxOk.up {z : Bx} {G H G' H' : Hp} (h : BoxOk z G H) (g : Same G G') (hb : H' z.b = H z.b) : BoxOk z G' H' := by
  obtain ⟨ns, p, q, r, s, h1, h2, h3⟩ := h
  exact ⟨ns, p, q, r, s, hb.trans h1, h2.up g, h3⟩
theorem Wo.pure {bx : Option Bx} {G H G' H' : Hp} (w : Wo bx G H) (e : Ext none G H G' H') (s : Same G' H') : Wo bx G' H' := by
  refine ⟨s, fun z hz => ?_⟩
  obtain ⟨h1, h2⟩ := w.b z hz
  have hB : ∃ o, H z.b = some o := let ⟨_, _, _, _, _, y, _⟩ := h2; ⟨_, y⟩
  obtain ⟨o, ho⟩ := hB
  refine ⟨?_, h2.up e.g ((e.same z.b o ho).trans ho.symm)⟩
  cases q : G' z.b with
  | none => rfl
  | some u =>
    rcases e.n z.b u q with y | y
    · rw [h1] at y; cases y
    · rw [ho] at y; cases y

/-! ### the names' values as data -/
inductive En where
  /-- nothing is known -/
  | un
  /-- frozen data -/
  | dat (d : PyData)
  /-- a list of one's own, that may change; its items frozen data -/
  | own (ds : List PyData)
  /-- the law's box -/
  | box
  /-- just this value -/
  | raw (v : V)
def EnOk (bx : Option Bx) (H0 G H : Hp) (σ : L2.St) (i : Nat) : En → Prop
  | .un => True
  | .dat d => ∃ v, σ[i]? = some (some v) ∧ Rp G v d
  | .own ds => ∃ p xs, σ[i]? = some (some (.ref p)) ∧ H0 p = none ∧ G p = none ∧ Off bx p ∧ H p = some (.lst xs) ∧ RpAll G xs ds
  | .box => ∃ z, bx = some z ∧ σ[i]? = some (some (.ref z.b))
  | .raw v => σ[i]? = some (some v)
structure SR (bx : Option Bx) (G0 H0 G H : Hp) (σ : L2.St) (E : List En) : Prop where
  len : σ.length = E.length
  x : Ext bx G0 H0 G H
  w : Wo bx G H
  e : ∀ i en, E[i]? = some en → EnOk bx H0 G H σ i en
  d : ∀ (i j : Nat) (ds es : List PyData) (p : Addr), i ≠ j → E[i]? = some (En.own ds) → E[j]? = some (En.own es) → σ[i]? = some (some (V.ref p)) → σ[j]? = some (some (V.ref p)) → False
section
variable {bx : Option Bx} {G0 H0 G H G' H' : Hp} {σ : L2.St} {E : List En}
theorem EnOk.ext {i : Nat} {en : En} (h : EnOk bx H0 G H σ i en) (e : Ext bx G H G' H') : EnOk bx H0 G' H' σ i en := by
  cases en with
  | un => trivial
  | dat d => obtain ⟨v, h1, h2⟩ := h; exact ⟨v, h1, h2.up e.g⟩
  | own ds =>
    obtain ⟨p, xs, h1, h2, h3, h4, h5, h6⟩ := h
    refine ⟨p, xs, h1, h2, ?_, h4, e.h p _ h4 h5, h6.up e.g⟩
    cases q : G' p with
    | none => rfl
    | some u =>
      rcases e.n p u q with z | z
      · rw [h3] at z; cases z
      · rw [h5] at z; cases z
  | box => exact h
  | raw v => exact h
theorem SR.ext (s : SR bx G0 H0 G H σ E) (e : Ext bx G H G' H') (w : Wo bx G' H') : SR bx G0 H0 G' H' σ E :=
  ⟨s.len, s.x.trans e, w, fun i en q => (s.e i en q).ext e, s.d⟩
theorem SR.pure (s : SR bx G0 H0 G H σ E) (e : Ext none G H G' H') (m : Same G' H') : SR bx G0 H0 G' H' σ E := s.ext e.any (s.w.pure e m)
theorem SR.dat (s : SR bx G0 H0 G H σ E) {i : Nat} {d : PyData} (h : E[i]? = some (.dat d)) : ∃ v, σ[i]? = some (some v) ∧ Rp G v d := s.e i _ h
/-- a name stored -/
theorem SR.set (s : SR bx G0 H0 G H σ E) {i : Nat} {v : V} {en : En} (h : i < E.length → EnOk bx H0 G H (σ.set i (some v)) i en) (hd : ∀ ds, en ≠ .own ds) : SR bx G0 H0 G H (σ.set i (some v)) (E.set i en) := by
  refine ⟨by simpa using s.len, s.x, s.w, fun j e q => ?_, fun j k ds es p hjk q1 q2 q3 q4 => ?_⟩
  · by_cases hj : i = j
    · subst hj
      have hl : i < E.length := by
        have := (List.getElem?_eq_some_iff.mp q).1
        simpa using this
      rw [List.getElem?_set_self hl] at q
      cases q
      exact h hl
    · rw [List.getElem?_set_ne hj] at q
      have z := s.e j e q
      have eσ : (σ.set i (some v))[j]? = σ[j]? := List.getElem?_set_ne hj
      cases e with
      | un => trivial
      | dat d => obtain ⟨u, z1, z2⟩ := z; exact ⟨u, eσ.trans z1, z2⟩
      | own ds => obtain ⟨p, xs, z1, z2⟩ := z; exact ⟨p, xs, eσ.trans z1, z2⟩
      | box => obtain ⟨b, z1, z2⟩ := z; exact ⟨b, z1, eσ.trans z2⟩
      | raw u => exact eσ.trans z
  · have ne : ∀ k ds, (E.set i en)[k]? = some (En.own ds) → k ≠ i := fun k ds q z => by
      subst z
      have hl : k < E.length := by
        have := (List.getElem?_eq_some_iff.mp q).1
        simpa using this
      rw [List.getElem?_set_self hl] at q
      exact hd ds (Option.some.inj q)
    have n1 := ne _ _ q1
    have n2 := ne _ _ q2
    rw [List.getElem?_set_ne (Ne.symm n1)] at q1 q3
    rw [List.getElem?_set_ne (Ne.symm n2)] at q2 q4
    exact s.d j k ds es p hjk q1 q2 q3 q4
theorem SR.setDat (s : SR bx G0 H0 G H σ E) {i : Nat} {v : V} {d : PyData} (h : Rp G v d) : SR bx G0 H0 G H (σ.set i (some v)) (E.set i (.dat d)) :=
  s.set (fun hl => ⟨v, List.getElem?_set_self (by rw [s.len]; exact hl), h⟩) fun _ => nofun
theorem SR.setRaw (s : SR bx G0 H0 G H σ E) {i : Nat} {v : V} : SR bx G0 H0 G H (σ.set i (some v)) (E.set i (.raw v)) :=
  s.set (fun hl => List.getElem?_set_self (by rw [s.len]; exact hl)) fun _ => nofun
theorem SR.setUn (s : SR bx G0 H0 G H σ E) {i : Nat} {v : V} : SR bx G0 H0 G H (σ.set i (some v)) (E.set i .un) :=
  s.set (fun hl => trivial) fun _ => nofun
/-- a name forgotten -/
theorem SR.wipe (s : SR bx G0 H0 G H σ E) {i : Nat} : SR bx G0 H0 G H (σ.set i none) (E.set i .un) := by
  refine ⟨by simpa using s.len, s.x, s.w, fun j e q => ?_, fun j k ds es p hjk q1 q2 q3 q4 => ?_⟩
  · by_cases hj : i = j
    · subst hj
      have hl : i < E.length := by
        have := (List.getElem?_eq_some_iff.mp q).1
        simpa using this
      rw [List.getElem?_set_self hl] at q
      cases q
      trivial
    · rw [List.getElem?_set_ne hj] at q
      have z := s.e j e q
      have eσ : (σ.set i none)[j]? = σ[j]? := List.getElem?_set_ne hj
      cases e with
      | un => trivial
      | dat d => obtain ⟨u, z1, z2⟩ := z; exact ⟨u, eσ.trans z1, z2⟩
      | own ds => obtain ⟨p, xs, z1, z2⟩ := z; exact ⟨p, xs, eσ.trans z1, z2⟩
      | box => obtain ⟨b, z1, z2⟩ := z; exact ⟨b, z1, eσ.trans z2⟩
      | raw u => exact eσ.trans z
  · have ne : ∀ k ds, (E.set i En.un)[k]? = some (En.own ds) → k ≠ i := fun k ds q z => by
      subst z
      have hl : k < E.length := by
        have := (List.getElem?_eq_some_iff.mp q).1
        simpa using this
      rw [List.getElem?_set_self hl] at q
      cases q
    have n1 := ne _ _ q1
    have n2 := ne _ _ q2
    rw [List.getElem?_set_ne (Ne.symm n1)] at q1 q3
    rw [List.getElem?_set_ne (Ne.symm n2)] at q2 q4
    exact s.d j k ds es p hjk q1 q2 q3 q4
/-- a name stored: a new list of one's own -/
theorem SR.setOwn (s : SR bx G0 H0 G H σ E) {i : Nat} {p : Addr} {xs : List V} {ds : List PyData} (hp : H p = none) (m : RpAll G xs ds) :
    SR bx G0 H0 G (upd H p (.lst xs)) (σ.set i (some (.ref p))) (E.set i (.own ds)) := by
  have e : Ext none G H G (upd H p (.lst xs)) := .own hp
  have s' := s.pure e (same_own s.w.s hp)
  have h0 : H0 p = none := s.x.none_of hp
  have gp : G p = none := s.w.s.free hp
  have bp : Off bx p := fun z hz e => by
    obtain ⟨_, _, _, _, _, _, z2, _⟩ := s.w.b z hz
    rw [e, hp] at z2; cases z2
  refine ⟨by simpa using s.len, s'.x, s'.w, fun j en q => ?_, fun j k ds1 es1 p1 hjk q1 q2 q3 q4 => ?_⟩
  · by_cases hj : i = j
    · subst hj
      have hl : i < E.length := by
        have := (List.getElem?_eq_some_iff.mp q).1
        simpa using this
      rw [List.getElem?_set_self hl] at q
      cases q
      exact ⟨p, xs, List.getElem?_set_self (by rw [s.len]; exact hl), h0, gp, bp, upd_same, m⟩
    · rw [List.getElem?_set_ne hj] at q
      have z := s'.e j en q
      have eσ : (σ.set i (some (V.ref p)))[j]? = σ[j]? := List.getElem?_set_ne hj
      cases en with
      | un => trivial
      | dat d => obtain ⟨u, z1, z2⟩ := z; exact ⟨u, eσ.trans z1, z2⟩
      | own ds => obtain ⟨p, xs, z1, z2⟩ := z; exact ⟨p, xs, eσ.trans z1, z2⟩
      | box => obtain ⟨b, z1, z2⟩ := z; exact ⟨b, z1, eσ.trans z2⟩
      | raw u => exact eσ.trans z
  · have old : ∀ k es, k ≠ i → (E.set i (En.own ds))[k]? = some (En.own es) → (σ.set i (some (V.ref p)))[k]? = some (some (V.ref p)) → False := fun k es hk q z => by
      rw [List.getElem?_set_ne (Ne.symm hk)] at q z
      obtain ⟨p', xs', z1, _, _, _, z5, _⟩ := s.e k _ q
      rw [z] at z1
      cases z1
      rw [hp] at z5; cases z5
    have at_i : ∀ k, k = i → (σ.set i (some (V.ref p)))[k]? = some (some (V.ref p1)) → p1 = p := fun k hk z => by
      subst hk
      have hl : k < σ.length := by
        have := (List.getElem?_eq_some_iff.mp z).1
        simpa using this
      rw [List.getElem?_set_self hl] at z
      cases z
      rfl
    by_cases hj : j = i
    · have e1 := at_i j hj q3
      subst e1
      exact old k es1 (fun z => hjk (hj.trans z.symm)) q2 q4
    · by_cases hk : k = i
      · have e1 := at_i k hk q4
        subst e1
        exact old j ds1 hj q1 q3
      · rw [List.getElem?_set_ne (Ne.symm hj)] at q1 q3
        rw [List.getElem?_set_ne (Ne.symm hk)] at q2 q4
        exact s.d j k ds1 es1 p1 hjk q1 q2 q3 q4
/-- a list of one's own changed -/
theorem SR.mut (s : SR bx G0 H0 G H σ E) {i : Nat} {p : Addr} {xs : List V} {ds es : List PyData} (hi : E[i]? = some (.own ds)) (hσ : σ[i]? = some (some (.ref p))) (m : RpAll G xs es) :
    SR bx G0 H0 G (upd H p (.lst xs)) σ (E.set i (.own es)) := by
  obtain ⟨p', xs0, z1, z2, z3, z4, z5, z6⟩ := s.e i _ hi
  rw [hσ] at z1
  cases z1
  have hl : i < E.length := (List.getElem?_eq_some_iff.mp hi).1
  refine ⟨by simpa using s.len, ⟨s.x.g, fun a o n q => ?_, s.x.n, fun a o q => ?_⟩, ⟨fun a o q => ?_, fun b hb => ?_⟩, fun j en q => ?_, fun j k ds1 es1 p1 hjk q1 q2 q3 q4 => ?_⟩
  · rw [upd_ne (ne_of_none q z2)]
    exact s.x.h a o n q
  · rw [upd_ne (ne_of_none q z2)]
    exact s.x.al a o q
  · rw [upd_ne (ne_of_none q z3)]
    exact s.w.s a o q
  · obtain ⟨b1, b2⟩ := s.w.b b hb
    exact ⟨b1, b2.up (Same.refl G) (upd_ne (z4 b hb))⟩
  · by_cases hj : i = j
    · subst hj
      rw [List.getElem?_set_self hl] at q
      cases q
      exact ⟨p, xs, hσ, z2, z3, z4, upd_same, m⟩
    · rw [List.getElem?_set_ne hj] at q
      have z := s.e j en q
      cases en with
      | un => trivial
      | dat d => exact z
      | own ds2 =>
        obtain ⟨p2, xs2, y1, y2, y3, y4, y5, y6⟩ := z
        refine ⟨p2, xs2, y1, y2, y3, y4, ?_, y6⟩
        rw [upd_ne fun e => s.d i j ds ds2 p hj hi q hσ (by rw [y1, e])]
        exact y5
      | box => exact z
      | raw u => exact z
  · have back : ∀ k es2, (E.set i (En.own es))[k]? = some (En.own es2) → ∃ es3, E[k]? = some (En.own es3) := fun k es2 q => by
      by_cases hk : i = k
      · subst hk; exact ⟨ds, hi⟩
      · rw [List.getElem?_set_ne hk] at q; exact ⟨es2, q⟩
    obtain ⟨a1, q1⟩ := back _ _ q1
    obtain ⟨a2, q2⟩ := back _ _ q2
    exact s.d j k a1 a2 p1 hjk q1 q2 q3 q4
/-- a list of one's own frozen -/
theorem SR.frz (s : SR bx G0 H0 G H σ E) {i : Nat} {p : Addr} {xs : List V} {ds : List PyData} (hi : E[i]? = some (.own ds)) (hσ : σ[i]? = some (some (.ref p))) (hx : H p = some (.lst xs)) :
    SR bx G0 H0 (upd G p (.lst xs)) H σ (E.set i (.dat (.list ds))) ∧ Rp (upd G p (.lst xs)) (.ref p) (.list ds) := by
  obtain ⟨p', xs0, z1, z2, z3, z4, z5, z6⟩ := s.e i _ hi
  rw [hσ] at z1
  cases z1
  rw [hx] at z5
  cases z5
  have gg : Same G (upd G p (.lst xs)) := fun a o q => by rw [upd_ne (ne_of_none q z3)]; exact q
  have hl : i < E.length := (List.getElem?_eq_some_iff.mp hi).1
  have hdp : Rp (upd G p (.lst xs)) (.ref p) (.list ds) := .lst upd_same (z6.up gg)
  refine ⟨⟨by simpa using s.len, s.x.freeze z2 z3, ⟨same_freeze s.w.s hx, fun b hb => ?_⟩, fun j en q => ?_, fun j k ds1 es1 p1 hjk q1 q2 q3 q4 => ?_⟩, hdp⟩
  · obtain ⟨b1, b2⟩ := s.w.b b hb
    exact ⟨by rw [upd_ne (z4 b hb)]; exact b1, b2.up gg rfl⟩
  · by_cases hj : i = j
    · subst hj
      rw [List.getElem?_set_self hl] at q
      cases q
      exact ⟨_, hσ, hdp⟩
    · rw [List.getElem?_set_ne hj] at q
      have z := s.e j en q
      cases en with
      | un => trivial
      | dat d => obtain ⟨v, y1, y2⟩ := z; exact ⟨v, y1, y2.up gg⟩
      | own ds2 =>
        obtain ⟨p2, xs2, y1, y2, y3, y4, y5, y6⟩ := z
        refine ⟨p2, xs2, y1, y2, ?_, y4, y5, y6.up gg⟩
        rw [upd_ne fun e => s.d i j ds ds2 p hj hi q hσ (by rw [y1, e])]
        exact y3
      | box => exact z
      | raw u => exact z
  · have back : ∀ k es2, (E.set i (En.dat (.list ds)))[k]? = some (En.own es2) → E[k]? = some (En.own es2) := fun k es2 q => by
      by_cases hk : i = k
      · subst hk
        rw [List.getElem?_set_self hl] at q
        cases q
      · rw [List.getElem?_set_ne hk] at q; exact q
    exact s.d j k ds1 es1 p1 hjk (back _ _ q1) (back _ _ q2) q3 q4
end
end Wx

namespace Wx
open PySem PySem.Spec PyProof.Rows L2

/-! ### readings over data alone -/
/-- an error: its class's name, its bars -/
abbrev Er := Str × Option PyData
abbrev DE := List En → (PyData → Prop) → (Er → Prop) → Prop
abbrev DT := List En → (Bool → Prop) → (Er → Prop) → Prop
abbrev DA := List En → (List En → Prop) → (Er → Prop) → Prop
def ErOk (K : PySem.W.Frag) (G H : Hp) (x : Er) (cls : Value) (dd : Option Addr) : Prop :=
  cls = .ref (He.ga K x.1) ∧ match x.2 with
    | none => dd = none
    | some d => ∃ a v, dd = some a ∧ H a = some (.xd [("bars", v)]) ∧ Rp G v d
/-- what stands around: entry, the heaps, the names -/
structure Pt where
  bx : Option Bx
  G0 : Hp
  H0 : Hp
  G : Hp
  E : List En
abbrev Pt.ok (P : Pt) (H : Hp) (σ : L2.St) : Prop := SR P.bx P.G0 P.H0 P.G H σ P.E
abbrev Pt.go (P : Pt) (G : Hp) : Pt := { P with G := G }
def ErTo (K : PySem.W.Frag) (W : WX) (P : Pt) (σ : L2.St) (Xn : Er → Prop) : Prop :=
  ∀ x cls dd G' H', SR P.bx P.G0 P.H0 G' H' σ P.E → ErOk K G' H' x cls dd → Xn x → W cls dd σ H'
def liftE (K : PySem.W.Frag) (W : WX) (de : DE) : TE := fun σ H Q => ∃ (P : Pt) (R : PyData → Prop) (Xn : Er → Prop), P.ok H σ ∧ de P.E R Xn ∧
  (∀ v G' H' d, Ext P.bx P.G H G' H' → (P.go G').ok H' σ → Rp G' v d → R d → Q v H') ∧ ErTo K W P σ Xn
def liftT (K : PySem.W.Frag) (W : WX) (dt : DT) : TT := fun σ H Q => ∃ (P : Pt) (R : Bool → Prop) (Xn : Er → Prop), P.ok H σ ∧ dt P.E R Xn ∧
  (∀ b G' H', Ext P.bx P.G H G' H' → (P.go G').ok H' σ → R b → Q b H') ∧ ErTo K W P σ Xn
/-- a new list of one's own, not yet named -/
def liftF (K : PySem.W.Frag) (W : WX) (df : List En → (List PyData → Prop) → (Er → Prop) → Prop) : TE := fun σ H Q => ∃ (P : Pt) (R : List PyData → Prop) (Xn : Er → Prop), P.ok H σ ∧ df P.E R Xn ∧
  (∀ p xs G' H' ds, Ext P.bx P.G H G' H' → (P.go G').ok H' σ → H p = none → G' p = none → H' p = some (.lst xs) → RpAll G' xs ds → R ds → Q (.ref p) H') ∧ ErTo K W P σ Xn
def ArgOk (bx : Option Bx) (G : Hp) (v : V) : En → Prop
  | .un => True
  | .dat d => Rp G v d
  | .own _ => False
  | .box => ∃ z, bx = some z ∧ v = .ref z.b
  | .raw u => v = u
abbrev ArgsOk (bx : Option Bx) (G : Hp) : List V → List En → Prop := Paired (ArgOk bx G)
def liftA (K : PySem.W.Frag) (W : WX) (da : DA) : TA := fun σ H Q => ∃ (P : Pt) (R : List En → Prop) (Xn : Er → Prop), P.ok H σ ∧ da P.E R Xn ∧
  (∀ vs G' H' as, Ext P.bx P.G H G' H' → (P.go G').ok H' σ → ArgsOk P.bx G' vs as → R as → Q vs H') ∧ ErTo K W P σ Xn
theorem ArgOk.up {bx : Option Bx} {G G' : Hp} {v : V} {a : En} (h : ArgOk bx G v a) (e : Same G G') : ArgOk bx G' v a := by
  cases a with
  | dat d => exact Rp.up h e
  | _ => exact h
theorem ArgsOk.up {bx : Option Bx} {G G' : Hp} : ∀ {vs : List V} {as : List En}, ArgsOk bx G vs as → Same G G' → ArgsOk bx G' vs as
  | _, _, .nil, _ => .nil
  | _, _, .cons r t, e => .cons (r.up e) (ArgsOk.up t e)
theorem ArgsOk.dats {bx : Option Bx} {G : Hp} : ∀ {vs : List V} {ds : List PyData}, ArgsOk bx G vs (ds.map .dat) → RpAll G vs ds
  | _, [], .nil => .nil
  | _, _ :: _, .cons r t => .cons r (ArgsOk.dats t)

section
variable {X : Cx} {W : WX}
theorem pe_imp {e : Expr} {t t' : TE} (h : PE X e t) (i : ∀ σ H Q, t' σ H Q → t σ H Q) : PE X e t' := ⟨fun pins s σ H Q I q => h.run pins s σ H Q I (i σ H Q q)⟩
theorem pt_imp {e : Expr} {t t' : TT} (h : PT X e t) (i : ∀ σ H Q, t' σ H Q → t σ H Q) : PT X e t' := ⟨fun pins s σ H Q I q => h.run pins s σ H Q I (i σ H Q q)⟩
theorem pw_imp {e : Expr} {t t' : TT} (h : PW X e t) (i : ∀ σ H Q, t' σ H Q → t σ H Q) : PW X e t' := ⟨fun wh pins s σ H Q I q => h.run wh pins s σ H Q I (i σ H Q q)⟩
theorem pa_imp {e : List Expr} {t t' : TA} (h : PA X e t) (i : ∀ σ H Q, t' σ H Q → t σ H Q) : PA X e t' := ⟨fun pos pins s σ H Q I q => h.run pos pins s σ H Q I (i σ H Q q)⟩
theorem pss_imp {e : List Stmt} {t t' : TS} (h : PSs X e t) (i : ∀ D σ H, t' D σ H → t D σ H) : PSs X e t' := ⟨fun pins s σ H D I q => h.run pins s σ H D I (i D σ H q)⟩
theorem ps_imp {e : Stmt} {t t' : TS} (h : PS X e t) (i : ∀ D σ H, t' D σ H → t D σ H) : PS X e t' := ⟨fun pins s σ H D I q => h.run pins s σ H D I (i D σ H q)⟩
end
abbrev QE (X : Cx) (W : WX) (e : Expr) (de : DE) : Prop := PE X e (liftE X.K W de)
abbrev QT (X : Cx) (W : WX) (e : Expr) (dt : DT) : Prop := PT X e (liftT X.K W dt)
abbrev QW (X : Cx) (W : WX) (e : Expr) (dt : DT) : Prop := PW X e (liftT X.K W dt)
abbrev QA (X : Cx) (W : WX) (es : List Expr) (da : DA) : Prop := PA X es (liftA X.K W da)
abbrev QF (X : Cx) (W : WX) (e : Expr) (df : List En → (List PyData → Prop) → (Er → Prop) → Prop) : Prop := PE X e (liftF X.K W df)

/-! ### names, constants -/
def dVar (i : Nat) : DE := fun E R _ => ∃ d, E[i]? = some (.dat d) ∧ R d
def dC (d : PyData) : DE := fun _ R _ => R d
section
variable {X : Cx} {W : WX} {pos : Pos}
theorem q_var (i : Nat) {x : Str} (h : PE X (.Name x pos) (tVar i)) : QE X W (.Name x pos) (dVar i) := pe_imp h fun σ H Q ⟨P, R, Xn, S, ⟨d, he, r⟩, k, _⟩ => by
  obtain ⟨v, h1, h2⟩ := S.dat he
  exact ⟨v, h1, k v P.G H d Ext.refl S h2 r⟩
theorem q_c {e : Expr} {v : V} {d : PyData} (h : PE X e (tC v)) (hv : ∀ G, Rp G v d) : QE X W e (dC d) := pe_imp h fun σ H Q ⟨P, R, Xn, S, r, k, _⟩ => k v P.G H d Ext.refl S (hv _) r
theorem q_int {i j} : QE X W (.Constant (.int i) j pos) (dC (.int i)) := q_c pe_int fun _ => .int i
theorem q_bl {b j} : QE X W (.Constant (.bool b) j pos) (dC (.bool b)) := q_c pe_bl fun _ => .bl b
theorem q_non {j} : QE X W (.Constant .none j pos) (dC .none) := q_c pe_non fun _ => .non
theorem q_str {x j} : QE X W (.Constant (.str x) j pos) (dC (.str x)) := q_c pe_str fun _ => .str x
theorem q_gint {x : Str} {i : Int} (h : PE X (.Name x pos) (tC (.int i))) : QE X W (.Name x pos) (dC (.int i)) := q_c h fun _ => .int i
theorem q_gstr {x : Str} {i : Str} (h : PE X (.Name x pos) (tC (.str i))) : QE X W (.Name x pos) (dC (.str i)) := q_c h fun _ => .str i
end

/-! ### operators -/
abbrev F2 := PyData → PyData → (PyData → Prop) → Prop
def R2Ok (K : PySem.W.Frag) (r : R2) (f : F2) : Prop := ∀ (G H : Hp) (v w : V) (x y : PyData) (R : PyData → Prop) (Q : VK), Same G H → Rp G v x → Rp G w y → f x y R →
  (∀ u G' H' d, Ext none G H G' H' → Same G' H' → Rp G' u d → R d → Q u H') → r v w H Q
def dOp (f : F2) (da db : DE) : DE := fun E R Xn => da E (fun x => db E (fun y => f x y R) Xn) Xn
section
variable {X : Cx} {W : WX} {pos : Pos} {a b c : Expr} {da db dc : DE}
theorem lift_op {K : PySem.W.Frag} {r : R2} {f : F2} (hs : R2Ok K r f) {σ : L2.St} {H : Hp} {Q : VK} (h : liftE K W (dOp f da db) σ H Q) : tOp r (liftE K W da) (liftE K W db) σ H Q := by
  obtain ⟨P, R, Xn, S, h, k, kx⟩ := h
  refine ⟨P, _, Xn, S, h, fun v G1 H1 d e1 S1 r1 h1 => ?_, kx⟩
  refine ⟨P.go G1, _, Xn, S1, h1, fun w G2 H2 y e2 S2 r2 h2 => ?_, kx⟩
  refine hs G2 H2 v w d y R Q S2.w.s (r1.up e2.g) r2 h2 fun u G' H' z e3 s3 r3 h3 => ?_
  exact k u G' H' z (e1.trans (e2.trans e3.any)) (S2.pure e3 s3) r3 h3
theorem q_op {op : Operator} {r : R2} {f : F2} (ho : OpR X (binaryOp op) r) (hs : R2Ok X.K r f) (ha : QE X W a da) (hb : QE X W b db) : QE X W (.BinOp a op b pos) (dOp f da db) :=
  pe_imp (pe_op ho ha hb) fun _ _ _ => lift_op hs
theorem q_cmp {op : CmpOp} {r : R2} {f : F2} (ho : OpR X (compareOp op) r) (hs : R2Ok X.K r f) (hm : behindInMarks op b = false) (ha : QE X W a da) (hb : QE X W b db) : QE X W (.Compare a [op] [b] pos) (dOp f da db) :=
  pe_imp (pe_cmpR ho ha hb hm) fun _ _ _ => lift_op hs
/-- its answer as a test -/
def dTB (de : DE) : DT := fun E R Xn => de E (fun d => ∃ b, d = .bool b ∧ R b) Xn
theorem lift_tb {K : PySem.W.Frag} {de : DE} {σ : L2.St} {H : Hp} {Q : Bool → Hp → Prop} (h : liftT K W (dTB de) σ H Q) : tB (liftE K W de) σ H Q := by
  obtain ⟨P, R, Xn, S, h, k, kx⟩ := h
  refine ⟨P, _, Xn, S, h, fun v G1 H1 d e1 S1 r1 h1 => ?_, kx⟩
  obtain ⟨b, rfl, h2⟩ := h1
  cases r1
  exact ⟨b, rfl, k b G1 H1 e1 S1 h2⟩
theorem t_cmp {op : CmpOp} {r : R2} {f : F2} (ho : OpR X (compareOp op) r) (hs : R2Ok X.K r f) (hm : behindInMarks op b = false) (ha : QE X W a da) (hb : QE X W b db) : QT X W (.Compare a [op] [b] pos) (dTB (dOp f da db)) := by
  refine pt_imp (pt_cmpR ho ha hb hm) fun σ H Q h => ?_
  obtain ⟨P, R, Xn, S, h, k, kx⟩ := h
  exact lift_op (W := W) hs ⟨P, _, Xn, S, h, fun v G1 H1 d e1 S1 r1 ⟨b, eb, h2⟩ => by
    subst eb
    cases r1
    exact ⟨b, rfl, k b G1 H1 e1 S1 h2⟩, kx⟩
theorem t_val {e : Expr} {de : DE} (h : QE X W e de) (he : ∀ whole, isTrue e X.env whole = (do let v ← whole; standAt e.pos; holding [v] (truthy v)) := by intro _; rfl) : QT X W e (dTB de) := pt_imp (pt_val h he) fun _ _ _ => lift_tb
/-- a < b < c -/
def dChain (f g : F2) (da db dc : DE) : DE := fun E R Xn => da E (fun x => db E (fun y => f x y fun z => ∃ k, z = .bool k ∧ (k = true → dc E (fun w => g y w R) Xn) ∧ (k = false → R (.bool false))) Xn) Xn
theorem lift_chain {K : PySem.W.Frag} {r r' : R2} {f g : F2} (hf : R2Ok K r f) (hg : R2Ok K r' g) {σ : L2.St} {H : Hp} {Q : VK} (h : liftE K W (dChain f g da db dc) σ H Q) : tChain r r' (liftE K W da) (liftE K W db) (liftE K W dc) σ H Q := by
  obtain ⟨P, R, Xn, S, h, k, kx⟩ := h
  refine ⟨P, _, Xn, S, h, fun v G1 H1 x e1 S1 r1 h1 => ?_, kx⟩
  refine ⟨P.go G1, _, Xn, S1, h1, fun w G2 H2 y e2 S2 r2 h2 => ?_, kx⟩
  refine hf G2 H2 v w x y _ _ S2.w.s (r1.up e2.g) r2 h2 fun u G3 H3 z e3 s3 r3 ⟨kk, ek, h3, h4⟩ => ?_
  subst ek
  cases r3
  refine ⟨kk, rfl, ?_⟩
  have S3 := S2.pure e3 s3
  cases kk with
  | false => exact k _ G3 H3 _ (e1.trans (e2.trans e3.any)) S3 (.bl false) (h4 rfl)
  | true =>
    refine ⟨P.go G3, _, Xn, S3, h3 rfl, fun w4 G4 H4 z4 e4 S4 r4 h5 => ?_, kx⟩
    refine hg G4 H4 w w4 y z4 R Q S4.w.s (r2.up (e3.g.trans e4.g)) r4 h5 fun u G' H' z e5 s5 r5 h6 => ?_
    exact k u G' H' z (e1.trans (e2.trans (e3.any.trans (e4.trans e5.any)))) (S4.pure e5 s5) r5 h6
theorem q_chain {op op' : CmpOp} {r r' : R2} {f g : F2} (ho : OpR X (compareOp op) r) (ho' : OpR X (compareOp op') r') (hf : R2Ok X.K r f) (hg : R2Ok X.K r' g) (ha : QE X W a da) (hb : QE X W b db) (hc : QE X W c dc)
    (hm : lastMarks [op, op'] [b, c] = false := by with_unfolding_all rfl) : QE X W (.Compare a [op, op'] [b, c] pos) (dChain f g da db dc) := pe_imp (pe_chain ho ho' ha hb hc hm) fun _ _ _ => lift_chain hf hg
theorem t_chain {op op' : CmpOp} {r r' : R2} {f g : F2} (ho : OpR X (compareOp op) r) (ho' : OpR X (compareOp op') r') (hf : R2Ok X.K r f) (hg : R2Ok X.K r' g) (ha : QE X W a da) (hb : QE X W b db) (hc : QE X W c dc)
    (hm : lastMarks [op, op'] [b, c] = false := by with_unfolding_all rfl) : QT X W (.Compare a [op, op'] [b, c] pos) (dTB (dChain f g da db dc)) := by
  refine pt_imp (pt_chain ho ho' ha hb hc hm) fun σ H Q h => ?_
  obtain ⟨P, R, Xn, S, h, k, kx⟩ := h
  exact lift_chain (W := W) hf hg ⟨P, _, Xn, S, h, fun v G1 H1 d e1 S1 r1 ⟨b, eb, h2⟩ => by
    subst eb
    cases r1
    exact ⟨b, rfl, k b G1 H1 e1 S1 h2⟩, kx⟩
end

/-! ### the operators over data -/
def small : PyData → Prop
  | .str x => x.length ≤ sizeLine
  | .list x => x.length ≤ sizeLine
  | .tuple x => x.length ≤ sizeLine
  | _ => True
def addD : PyData → PyData → Option PyData
  | .int i, .int j => some (.int (i + j))
  | .str x, .str y => some (.str (x ++ y))
  | .list x, .list y => some (.list (x ++ y))
  | .tuple x, .tuple y => some (.tuple (x ++ y))
  | _, _ => none
def fAdd : F2 := fun x y R => ∃ z, addD x y = some z ∧ small z ∧ R z
def rPlus (K : PySem.W.Frag) : R2 := fun x y H Q => (∃ i j, x = .int i ∧ y = .int j ∧ Q (.int (i + j)) H) ∨ (∃ i j, x = .str i ∧ y = .str j ∧ i.length + j.length ≤ sizeLine ∧ Q (.str (i ++ j)) H) ∨ rCat x y H Q ∨ rCatA K x y H Q
theorem op_plus {X : Cx} : OpR X (binaryOp .Add) (rPlus X.K) := OpR.or op_add (OpR.or op_add_str (OpR.or op_cat op_catA))
theorem len_app (x y : Str) : (x ++ y).length = x.length + y.length := by
  show (x.cps ++ y.cps).size = _
  rw [Array.size_append]
  rfl
theorem plus_ok {K : PySem.W.Frag} : R2Ok K (rPlus K) fAdd := fun G H v w x y R Q s r1 r2 ⟨z, ez, hz, hR⟩ k => by
  cases r1 with
  | int i =>
    cases r2 with
    | int j => cases ez; exact .inl ⟨i, j, rfl, rfl, k _ G H _ Ext.refl s (.int _) hR⟩
    | _ => cases ez
  | str i =>
    cases r2 with
    | str j => cases ez; exact .inr (.inl ⟨i, j, rfl, rfl, by rw [← len_app]; exact hz, k _ G H _ Ext.refl s (.str _) hR⟩)
    | _ => cases ez
  | @lst a xs ds h1 a1 =>
    cases r2 with
    | @lst b ys es h2 a2 =>
      cases ez
      have hl : xs.length + ys.length ≤ sizeLine := by
        rw [a1.length, a2.length, ← List.length_append]; exact hz
      refine .inr (.inr (.inl ⟨a, b, xs, ys, rfl, rfl, s _ _ h1, s _ _ h2, hl, fun p hp => ?_⟩))
      have e := Ext.new (o := .lst (xs ++ ys)) s hp
      exact k _ _ _ _ e (same_new s) (.lst upd_same ((a1.app a2).up e.g)) hR
    | _ => cases ez
  | @tup a xs ds h1 a1 =>
    cases r2 with
    | @tup b ys es h2 a2 =>
      cases ez
      have hl : xs.length + ys.length ≤ sizeLine := by
        rw [a1.length, a2.length, ← List.length_append]; exact hz
      refine .inr (.inr (.inr ⟨a, b, xs, ys, rfl, rfl, SqT.of (s _ _ h1), SqT.of (s _ _ h2), hl, fun e => ?_, fun e1 e2 => ?_, fun _ _ p hp => ?_⟩))
      · subst e
        have : ds = [] := List.eq_nil_of_length_eq_zero (by rw [← a1.length]; rfl)
        subst this
        exact k _ G H _ Ext.refl s (.tup h2 a2) hR
      · subst e2
        have : es = [] := List.eq_nil_of_length_eq_zero (by rw [← a2.length]; rfl)
        subst this
        rw [List.append_nil] at hR
        exact k _ G H _ Ext.refl s (.tup h1 a1) hR
      · have e := Ext.new (o := .tup (xs ++ ys)) s hp
        exact k _ _ _ _ e (same_new s) (.tup upd_same ((a1.app a2).up e.g)) hR
    | _ => cases ez
  | _ => cases r2 <;> cases ez
/-- two ints -/
def fII (C : Int → Int → Prop) (g : Int → Int → PyData) : F2 := fun x y R => ∃ i j, x = .int i ∧ y = .int j ∧ C i j ∧ R (g i j)
theorem ii_ok {K : PySem.W.Frag} {C : Int → Int → Prop} {g : Int → Int → V} {g' : Int → Int → PyData} (hg : ∀ G i j, Rp G (g i j) (g' i j)) : R2Ok K (rI C g) (fII C g') := fun G H v w x y R Q s r1 r2 ⟨i, j, e1, e2, hc, hR⟩ k => by
  subst e1 e2
  cases r1
  cases r2
  exact ⟨i, j, rfl, rfl, hc, k _ G H _ Ext.refl s (hg G i j) hR⟩
theorem ii0_ok {K : PySem.W.Frag} {g : Int → Int → V} {g' : Int → Int → PyData} (hg : ∀ G i j, Rp G (g i j) (g' i j)) : R2Ok K (rI0 g) (fII (fun _ _ => True) g') := fun G H v w x y R Q s r1 r2 ⟨i, j, e1, e2, _, hR⟩ k => by
  subst e1 e2
  cases r1
  cases r2
  exact ⟨i, j, rfl, rfl, k _ G H _ Ext.refl s (hg G i j) hR⟩
abbrev CT : Int → Int → Prop := fun _ _ => True
def fSub : F2 := fII CT fun i j => .int (i - j)
def fMul : F2 := fII CMul fun i j => .int (i * j)
def fDiv : F2 := fII CDiv fun i j => .int (i / j)
def fMod : F2 := fII (fun _ j => 0 < j) fun i j => .int (i % j)
def fPow : F2 := fII CPow fun i j => .int (i ^ j.toNat)
def fLt : F2 := fII CT fun i j => .bool (decide (i < j))
def fLe : F2 := fII CT fun i j => .bool (decide (i ≤ j))
def fGt : F2 := fII CT fun i j => .bool (decide (j < i))
def fGe : F2 := fII CT fun i j => .bool (decide (j ≤ i))
abbrev sh (d : PyData) : Prop := SeqAt.shaped d = true
def fEq : F2 := fun x y R => sh x ∧ sh y ∧ R (.bool (PyData.eqv x y))
def fNe : F2 := fun x y R => sh x ∧ sh y ∧ R (.bool (!PyData.eqv x y))
theorem eq_ok {K : PySem.W.Frag} : R2Ok K (rEqD K) fEq := fun G H v w x y R Q s r1 r2 ⟨a, b, hR⟩ k => ⟨x, y, r1.dp s, r2.dp s, a, b, k _ G H _ Ext.refl s (.bl _) hR⟩
theorem ne_ok {K : PySem.W.Frag} : R2Ok K (rNeD K) fNe := fun G H v w x y R Q s r1 r2 ⟨a, b, hR⟩ k => ⟨x, y, r1.dp s, r2.dp s, a, b, k _ G H _ Ext.refl s (.bl _) hR⟩
/-- flat data -/
def flatD : PyData → Bool
  | .none => true
  | .bool _ => true
  | .int _ => true
  | .str _ => true
  | _ => false
theorem rp_flat {G : Hp} {v : V} {d : PyData} (r : Rp G v d) : flatV v = flatD d := by cases r <;> rfl
theorem rp_flats {G : Hp} : ∀ {vs : List V} {ds : List PyData}, RpAll G vs ds → vs.all flatV = ds.all flatD
  | _, _, .nil => rfl
  | _, _, .cons r t => by rw [List.all_cons, List.all_cons, rp_flat r, rp_flats t]
theorem eqV_eqv {G : Hp} {v w : V} {x y : PyData} (r1 : Rp G v x) (r2 : Rp G w y) (f1 : flatD x = true) (f2 : flatD y = true) : eqV v w = PyData.eqv x y := by
  cases r1 <;> cases r2 <;> first | rfl | cases f1 | cases f2 | simp [eqV, PyData.eqv]
theorem inV_eqv {G : Hp} {v : V} {x : PyData} (r : Rp G v x) (f : flatD x = true) : ∀ {vs : List V} {ds : List PyData}, RpAll G vs ds → ds.all flatD = true → inV v vs = ds.any fun z => PyData.eqv z x
  | _, _, .nil, _ => rfl
  | _, _, .cons r1 t, h => by
    rw [List.all_cons, Bool.and_eq_true] at h
    show (eqV _ v || inV v _) = _
    rw [List.any_cons, eqV_eqv r1 r h.1 f, inV_eqv r f t h.2]
/-- x in a list, a tuple of flat things, a text (one sign) -/
def fIn (neg : Bool) : F2 := fun x y R => match y with
  | .list ds => sh x ∧ sh (.list ds) ∧ R (.bool (neg != ds.any fun z => PyData.eqv z x))
  | .tuple ds => flatD x = true ∧ ds.all flatD = true ∧ R (.bool (neg != ds.any fun z => PyData.eqv z x))
  | .str z => ∃ c : Nat, x = .str ⟨#[c]⟩ ∧ R (.bool (neg != decide (c ∈ z.cps.toList)))
  | _ => False
def rInA (K : PySem.W.Frag) : R2 := fun x y H Q => rInD K x y H Q ∨ rIn K false x y H Q ∨ ∃ (c : Nat) (z : Str), x = .str ⟨#[c]⟩ ∧ y = .str z ∧ Q (.bl (decide (c ∈ z.cps.toList))) H
def rNotInA (K : PySem.W.Frag) : R2 := fun x y H Q => rNotInD K x y H Q ∨ rIn K true x y H Q ∨ ∃ (c : Nat) (z : Str), x = .str ⟨#[c]⟩ ∧ y = .str z ∧ Q (.bl (!decide (c ∈ z.cps.toList))) H
theorem op_inA {X : Cx} (hu : X.A.units + 65 < cLine) : OpR X (compareOp .In) (rInA X.K) := OpR.or (op_inD hu) (OpR.or op_in_seq op_in_sign)
theorem op_notInA {X : Cx} (hu : X.A.units + 65 < cLine) : OpR X (compareOp .NotIn) (rNotInA X.K) := OpR.or (op_notInD hu) (OpR.or op_notIn_seq op_notIn_sign)
theorem in_ok {K : PySem.W.Frag} : R2Ok K (rInA K) (fIn false) := fun G H v w x y R Q s r1 r2 h k => by
  cases r2 with
  | @lst a xs ds h1 a1 =>
    obtain ⟨q1, q2, hR⟩ := h
    exact .inl ⟨x, ds, r1.dp s, .lst (SqL.of (s _ _ h1)) (rps_dp s _ _ a1), q1, q2, k _ G H _ Ext.refl s (.bl _) (by simpa using hR)⟩
  | @tup a xs ds h1 a1 =>
    obtain ⟨q1, q2, hR⟩ := h
    exact .inr (.inl ⟨a, xs, rfl, .inr (SqT.of (s _ _ h1)), by rw [rp_flat r1]; exact q1, by rw [rp_flats a1]; exact q2, k _ G H _ Ext.refl s (.bl _) (by rw [inV_eqv r1 q1 a1 q2]; simpa using hR)⟩)
  | str z =>
    obtain ⟨c, e, hR⟩ := h
    subst e
    cases r1
    exact .inr (.inr ⟨c, z, rfl, rfl, k _ G H _ Ext.refl s (.bl _) (by simpa using hR)⟩)
  | _ => exact h.elim
theorem notIn_ok {K : PySem.W.Frag} : R2Ok K (rNotInA K) (fIn true) := fun G H v w x y R Q s r1 r2 h k => by
  cases r2 with
  | @lst a xs ds h1 a1 =>
    obtain ⟨q1, q2, hR⟩ := h
    exact .inl ⟨x, ds, r1.dp s, .lst (SqL.of (s _ _ h1)) (rps_dp s _ _ a1), q1, q2, k _ G H _ Ext.refl s (.bl _) (by simpa using hR)⟩
  | @tup a xs ds h1 a1 =>
    obtain ⟨q1, q2, hR⟩ := h
    exact .inr (.inl ⟨a, xs, rfl, .inr (SqT.of (s _ _ h1)), by rw [rp_flat r1]; exact q1, by rw [rp_flats a1]; exact q2, k _ G H _ Ext.refl s (.bl _) (by rw [if_pos rfl, inV_eqv r1 q1 a1 q2]; simpa using hR)⟩)
  | str z =>
    obtain ⟨c, e, hR⟩ := h
    subst e
    cases r1
    exact .inr (.inr ⟨c, z, rfl, rfl, k _ G H _ Ext.refl s (.bl _) (by simpa using hR)⟩)
  | _ => exact h.elim
/-- is None -/
def isN (d : PyData) : Bool := match d with
  | .none => true
  | _ => false
def fIsN : F2 := fun x y R => y = .none ∧ R (.bool (isN x))
def fNotN : F2 := fun x y R => y = .none ∧ R (.bool (!isN x))
def rIsN' : R2 := fun x y H Q => y = .non ∧ Q (.bl (decide (x = .non))) H
def rNotN' : R2 := fun x y H Q => y = .non ∧ Q (.bl (!decide (x = .non))) H
theorem op_isN' {X : Cx} : OpR X (compareOp .Is) rIsN' := op_isN
theorem op_notN' {X : Cx} : OpR X (compareOp .IsNot) rNotN' := op_notN
theorem rp_isN {G : Hp} {v : V} {x : PyData} (r : Rp G v x) : decide (v = .non) = isN x := by cases r <;> simp [isN]
theorem isN_ok {K : PySem.W.Frag} : R2Ok K rIsN' fIsN := fun G H v w x y R Q s r1 r2 ⟨e, hR⟩ k => by
  subst e
  cases r2
  exact ⟨rfl, k _ G H _ Ext.refl s (.bl _) (by rw [rp_isN r1]; exact hR)⟩
theorem notN_ok {K : PySem.W.Frag} : R2Ok K rNotN' fNotN := fun G H v w x y R Q s r1 r2 ⟨e, hR⟩ k => by
  subst e
  cases r2
  exact ⟨rfl, k _ G H _ Ext.refl s (.bl _) (by rw [rp_isN r1]; exact hR)⟩
/-- an item -/
def ixD (x : PyData) (i : Int) : Option PyData := match x with
  | .list ds => atI ds i
  | .tuple ds => atI ds i
  | .str z => (atI z.cps.toList i).map fun c => .str ⟨#[c]⟩
  | _ => none
def fIx : F2 := fun x y R => ∃ i z, y = .int i ∧ small x ∧ ixD x i = some z ∧ R z
theorem atI_rp {G : Hp} {xs : List V} {ds : List PyData} {i : Int} {d : PyData} (r : RpAll G xs ds) (h : atI ds i = some d) : ∃ v, atI xs i = some v ∧ Rp G v d := by
  unfold atI at h ⊢
  rw [r.length]
  cases e : ixN ds.length i with
  | none => rw [e] at h; cases h
  | some j =>
    rw [e] at h
    exact r.at h
theorem ix_ok {K : PySem.W.Frag} : R2Ok K (rIx K) fIx := fun G H v w x y R Q s r1 r2 ⟨i, z, e, hz, hi, hR⟩ k => by
  subst e
  cases r2
  cases r1 with
  | @lst a xs ds h1 a1 =>
    obtain ⟨u, hu, ru⟩ := atI_rp a1 hi
    exact .inl ⟨a, xs, i, u, rfl, rfl, SqL.of (s _ _ h1), hu, k _ G H _ Ext.refl s ru hR⟩
  | @tup a xs ds h1 a1 =>
    obtain ⟨u, hu, ru⟩ := atI_rp a1 hi
    exact .inr (.inl ⟨a, xs, i, u, rfl, rfl, SqT.of (s _ _ h1), hu, k _ G H _ Ext.refl s ru hR⟩)
  | str z0 =>
    have hi : (atI z0.cps.toList i).map (fun c => PyData.str ⟨#[c]⟩) = some z := hi
    cases q : atI z0.cps.toList i with
    | none => rw [q] at hi; cases hi
    | some c =>
      rw [q] at hi
      cases hi
      exact .inr (.inr ⟨z0, i, c, rfl, rfl, hz, q, k _ G H _ Ext.refl s (.str _) hR⟩)
  | _ => cases hi
section
variable {X : Cx} {W : WX} {pos : Pos} {a b c : Expr} {da db dc : DE}
theorem q_ix (ha : QE X W a da) (hb : QE X W b db) (hs : PlainIx b := by exact fun _ _ => rfl) : QE X W (.Subscript a b pos) (dOp fIx da db) := pe_imp (pe_ix ix_seq ha hb hs) fun _ _ _ => lift_op ix_ok
theorem q_add (ha : QE X W a da) (hb : QE X W b db) : QE X W (.BinOp a .Add b pos) (dOp fAdd da db) := q_op op_plus plus_ok ha hb
theorem q_sub (ha : QE X W a da) (hb : QE X W b db) : QE X W (.BinOp a .Sub b pos) (dOp fSub da db) := q_op op_sub (ii0_ok fun _ _ _ => .int _) ha hb
theorem q_mul (ha : QE X W a da) (hb : QE X W b db) : QE X W (.BinOp a .Mult b pos) (dOp fMul da db) := q_op op_mul (ii_ok fun _ _ _ => .int _) ha hb
theorem q_div (ha : QE X W a da) (hb : QE X W b db) : QE X W (.BinOp a .FloorDiv b pos) (dOp fDiv da db) := q_op op_fdiv (ii_ok fun _ _ _ => .int _) ha hb
theorem q_mod (ha : QE X W a da) (hb : QE X W b db) : QE X W (.BinOp a .Mod b pos) (dOp fMod da db) := q_op op_mod (ii_ok fun _ _ _ => .int _) ha hb
theorem q_pow (ha : QE X W a da) (hb : QE X W b db) : QE X W (.BinOp a .Pow b pos) (dOp fPow da db) := q_op op_pow (ii_ok fun _ _ _ => .int _) ha hb
/-- -a -/
def dNeg (da : DE) : DE := fun E R Xn => da E (fun x => ∃ i, x = .int i ∧ R (.int (-i))) Xn
theorem q_neg (ha : QE X W a da) : QE X W (.UnaryOp .USub a pos) (dNeg da) := pe_imp (pe_un un_neg ha) fun σ H Q ⟨P, R, Xn, S, h, k, kx⟩ =>
  ⟨P, _, Xn, S, h, fun v G1 H1 x e1 S1 r1 ⟨i, ei, hR⟩ => by
    subst ei
    cases r1
    exact ⟨i, rfl, k _ G1 H1 _ e1 S1 (.int _) hR⟩, kx⟩
end
/-! comparisons by their sign: as a value, as a test -/
structure CmpOk (X : Cx) (op : CmpOp) (f : F2) : Prop where
  ok : ∃ r, OpR X (compareOp op) r ∧ R2Ok X.K r f
section
variable {X : Cx} {W : WX} {pos : Pos} {a b c : Expr} {da db dc : DE} {op op' : CmpOp} {f g : F2}
theorem c_lt : CmpOk X .Lt fLt := ⟨_, op_lt, ii0_ok fun _ _ _ => .bl _⟩
theorem c_le : CmpOk X .LtE fLe := ⟨_, op_le, ii0_ok fun _ _ _ => .bl _⟩
theorem c_gt : CmpOk X .Gt fGt := ⟨_, op_gt, ii0_ok fun _ _ _ => .bl _⟩
theorem c_ge : CmpOk X .GtE fGe := ⟨_, op_ge, ii0_ok fun _ _ _ => .bl _⟩
theorem c_eq (hu : X.A.units + 65 < cLine) : CmpOk X .Eq fEq := ⟨_, op_eqD (by omega), eq_ok⟩
theorem c_ne (hu : X.A.units + 65 < cLine) : CmpOk X .NotEq fNe := ⟨_, op_neD (by omega), ne_ok⟩
theorem c_in (hu : X.A.units + 65 < cLine) : CmpOk X .In (fIn false) := ⟨_, op_inA hu, in_ok⟩
theorem c_notIn (hu : X.A.units + 65 < cLine) : CmpOk X .NotIn (fIn true) := ⟨_, op_notInA hu, notIn_ok⟩
theorem c_isN : CmpOk X .Is fIsN := ⟨_, op_isN', isN_ok⟩
theorem c_notN : CmpOk X .IsNot fNotN := ⟨_, op_notN', notN_ok⟩
theorem q_c1 (h : CmpOk X op f) (ha : QE X W a da) (hb : QE X W b db) (hm : behindInMarks op b = false := by first | exact nomark _ | rfl) : QE X W (.Compare a [op] [b] pos) (dOp f da db) := by
  obtain ⟨r, ho, hs⟩ := h.ok
  exact q_cmp ho hs hm ha hb
theorem t_c1 (h : CmpOk X op f) (ha : QE X W a da) (hb : QE X W b db) (hm : behindInMarks op b = false := by first | exact nomark _ | rfl) : QT X W (.Compare a [op] [b] pos) (dTB (dOp f da db)) := by
  obtain ⟨r, ho, hs⟩ := h.ok
  exact t_cmp ho hs hm ha hb
theorem q_c2 (h : CmpOk X op f) (h' : CmpOk X op' g) (ha : QE X W a da) (hb : QE X W b db) (hc : QE X W c dc) (hm : lastMarks [op, op'] [b, c] = false := by with_unfolding_all rfl) : QE X W (.Compare a [op, op'] [b, c] pos) (dChain f g da db dc) := by
  obtain ⟨r, ho, hs⟩ := h.ok
  obtain ⟨r', ho', hs'⟩ := h'.ok
  exact q_chain ho ho' hs hs' ha hb hc hm
theorem t_c2 (h : CmpOk X op f) (h' : CmpOk X op' g) (ha : QE X W a da) (hb : QE X W b db) (hc : QE X W c dc) (hm : lastMarks [op, op'] [b, c] = false := by with_unfolding_all rfl) : QT X W (.Compare a [op, op'] [b, c] pos) (dTB (dChain f g da db dc)) := by
  obtain ⟨r, ho, hs⟩ := h.ok
  obtain ⟨r', ho', hs'⟩ := h'.ok
  exact t_chain ho ho' hs hs' ha hb hc hm
end

/-! ### and, or, not, if else -/
def dAndT (t u : DT) : DT := fun E R Xn => t E (fun c => (c = true → u E R Xn) ∧ (c = false → R false)) Xn
def dOrT (t u : DT) : DT := fun E R Xn => t E (fun c => (c = false → u E R Xn) ∧ (c = true → R true)) Xn
def dNotT (t : DT) : DT := fun E R Xn => t E (fun c => R (!c)) Xn
def dAndV (a b : DE) : DE := fun E R Xn => a E (fun x => ∃ c, x = .bool c ∧ (c = true → b E R Xn) ∧ (c = false → R (.bool false))) Xn
def dOrV (a b : DE) : DE := fun E R Xn => a E (fun x => ∃ c, x = .bool c ∧ (c = false → b E R Xn) ∧ (c = true → R (.bool true))) Xn
def dNotV (a : DE) : DE := fun E R Xn => a E (fun x => ∃ c, x = .bool c ∧ R (.bool (!c))) Xn
def dIf (t : DT) (a b : DE) : DE := fun E R Xn => t E (fun c => (c = true → a E R Xn) ∧ (c = false → b E R Xn)) Xn
section
variable {X : Cx} {W : WX} {pos : Pos} {a b c : Expr} {rest : List Expr} {da db dc : DE} {dt du : DT}
theorem tw_and1 (ha : QT X W a dt) : QW X W (.BoolOp .And [a] pos) dt := pw_and1 ha
theorem tw_or1 (ha : QT X W a dt) : QW X W (.BoolOp .Or [a] pos) dt := pw_or1 ha
theorem tw_and (ha : QT X W a dt) (hb : QW X W (.BoolOp .And (b :: rest) pos) du) : QW X W (.BoolOp .And (a :: b :: rest) pos) (dAndT dt du) := pw_imp (pw_and ha hb) fun σ H Q ⟨P, R, Xn, S, h, k, kx⟩ =>
  ⟨P, _, Xn, S, h, fun c G1 H1 e1 S1 ⟨h1, h2⟩ => by
    cases c with
    | false => exact k false G1 H1 e1 S1 (h2 rfl)
    | true => exact ⟨P.go G1, R, Xn, S1, h1 rfl, fun b G2 H2 e2 S2 q => k b G2 H2 (e1.trans e2) S2 q, kx⟩, kx⟩
theorem tw_or (ha : QT X W a dt) (hb : QW X W (.BoolOp .Or (b :: rest) pos) du) : QW X W (.BoolOp .Or (a :: b :: rest) pos) (dOrT dt du) := pw_imp (pw_or ha hb) fun σ H Q ⟨P, R, Xn, S, h, k, kx⟩ =>
  ⟨P, _, Xn, S, h, fun c G1 H1 e1 S1 ⟨h1, h2⟩ => by
    cases c with
    | true => exact k true G1 H1 e1 S1 (h2 rfl)
    | false => exact ⟨P.go G1, R, Xn, S1, h1 rfl, fun b G2 H2 e2 S2 q => k b G2 H2 (e1.trans e2) S2 q, kx⟩, kx⟩
theorem t_w {e : Expr} (h : QW X W e dt) : QT X W e dt := PW.pt h
theorem t_not (ha : QT X W a dt) : QT X W (.UnaryOp .Not a pos) (dNotT dt) := pt_imp (pt_not ha) fun σ H Q ⟨P, R, Xn, S, h, k, kx⟩ =>
  ⟨P, _, Xn, S, h, fun c G1 H1 e1 S1 h1 => k (!c) G1 H1 e1 S1 h1, kx⟩
theorem q_one {op} (ha : QE X W a da) : QE X W (.BoolOp op [a] pos) da := pe_one ha
theorem q_and (ha : QE X W a da) (hb : QE X W (.BoolOp .And (b :: rest) pos) db) : QE X W (.BoolOp .And (a :: b :: rest) pos) (dAndV da db) := pe_imp (pe_and ha hb) fun σ H Q ⟨P, R, Xn, S, h, k, kx⟩ =>
  ⟨P, _, Xn, S, h, fun v G1 H1 x e1 S1 r1 ⟨c, ec, h1, h2⟩ => by
    subst ec
    cases r1
    refine ⟨c, rfl, ?_⟩
    cases c with
    | false => exact k _ G1 H1 _ e1 S1 (.bl false) (h2 rfl)
    | true => exact ⟨P.go G1, R, Xn, S1, h1 rfl, fun b G2 H2 d e2 S2 r2 q => k b G2 H2 d (e1.trans e2) S2 r2 q, kx⟩, kx⟩
theorem q_or (ha : QE X W a da) (hb : QE X W (.BoolOp .Or (b :: rest) pos) db) : QE X W (.BoolOp .Or (a :: b :: rest) pos) (dOrV da db) := pe_imp (pe_or ha hb) fun σ H Q ⟨P, R, Xn, S, h, k, kx⟩ =>
  ⟨P, _, Xn, S, h, fun v G1 H1 x e1 S1 r1 ⟨c, ec, h1, h2⟩ => by
    subst ec
    cases r1
    refine ⟨c, rfl, ?_⟩
    cases c with
    | true => exact k _ G1 H1 _ e1 S1 (.bl true) (h2 rfl)
    | false => exact ⟨P.go G1, R, Xn, S1, h1 rfl, fun b G2 H2 d e2 S2 r2 q => k b G2 H2 d (e1.trans e2) S2 r2 q, kx⟩, kx⟩
theorem q_not (ha : QE X W a da) : QE X W (.UnaryOp .Not a pos) (dNotV da) := pe_imp (pe_not ha) fun σ H Q ⟨P, R, Xn, S, h, k, kx⟩ =>
  ⟨P, _, Xn, S, h, fun v G1 H1 x e1 S1 r1 ⟨c, ec, h1⟩ => by
    subst ec
    cases r1
    exact ⟨c, rfl, k _ G1 H1 _ e1 S1 (.bl _) h1⟩, kx⟩
theorem q_if (ht : QT X W c dt) (ha : QE X W a da) (hb : QE X W b db) : QE X W (.IfExp c a b pos) (dIf dt da db) := pe_imp (pe_ifExp ht ha hb) fun σ H Q ⟨P, R, Xn, S, h, k, kx⟩ =>
  ⟨P, _, Xn, S, h, fun c G1 H1 e1 S1 ⟨h1, h2⟩ => by
    cases c with
    | false => exact ⟨P.go G1, R, Xn, S1, h2 rfl, fun b G2 H2 d e2 S2 r2 q => k b G2 H2 d (e1.trans e2) S2 r2 q, kx⟩
    | true => exact ⟨P.go G1, R, Xn, S1, h1 rfl, fun b G2 H2 d e2 S2 r2 q => k b G2 H2 d (e1.trans e2) S2 r2 q, kx⟩, kx⟩
end
end Wx

namespace Wx
open PySem PySem.Spec PyProof.Rows L2

/-! ### arguments -/
def dNil : DA := fun _ R _ => R []
def dCons (de : DE) (dr : DA) : DA := fun E R Xn => de E (fun d => dr E (fun as => R (.dat d :: as)) Xn) Xn
def dBoxA (i : Nat) (dr : DA) : DA := fun E R Xn => E[i]? = some .box ∧ dr E (fun as => R (.box :: as)) Xn
def dRawA (i : Nat) (dr : DA) : DA := fun E R Xn => ∃ v, E[i]? = some (.raw v) ∧ dr E (fun as => R (.raw v :: as)) Xn
section
variable {X : Cx} {W : WX} {pos : Pos} {e : Expr} {es : List Expr} {de : DE} {dr : DA}
theorem a_nil : QA X W [] dNil := pa_imp pa_nil fun σ H Q ⟨P, R, Xn, S, h, k, kx⟩ => k [] P.G H [] Ext.refl S .nil h
theorem a_cons (he : QE X W e de) (hr : QA X W es dr) (hs : starEach (e :: es) X.env = (false, eval e X.env) :: starEach es X.env := by rfl) : QA X W (e :: es) (dCons de dr) := pa_imp (pa_cons he hr hs) fun σ H Q ⟨P, R, Xn, S, h, k, kx⟩ =>
  ⟨P, _, Xn, S, h, fun v G1 H1 d e1 S1 r1 h1 => ⟨P.go G1, _, Xn, S1, h1, fun vs G2 H2 as e2 S2 r2 h2 => k (v :: vs) G2 H2 (.dat d :: as) (e1.trans e2) S2 (.cons (r1.up e2.g) r2) h2, kx⟩, kx⟩
theorem a_box (i : Nat) {x : Str} {p : Pos} (he : PE X (.Name x p) (tVar i)) (hr : QA X W es dr) (hs : starEach (.Name x p :: es) X.env = (false, eval (.Name x p) X.env) :: starEach es X.env := by rfl) : QA X W (.Name x p :: es) (dBoxA i dr) :=
  pa_imp (pa_cons he hr hs) fun σ H Q ⟨P, R, Xn, S, ⟨hb, h⟩, k, kx⟩ => by
    obtain ⟨z, hz, hσ⟩ := S.e i _ hb
    exact ⟨_, hσ, P, _, Xn, S, h, fun vs G2 H2 as e2 S2 r2 h2 => k _ G2 H2 (.box :: as) e2 S2 (.cons ⟨z, hz, rfl⟩ r2) h2, kx⟩
theorem a_raw (i : Nat) {x : Str} {p : Pos} (he : PE X (.Name x p) (tVar i)) (hr : QA X W es dr) (hs : starEach (.Name x p :: es) X.env = (false, eval (.Name x p) X.env) :: starEach es X.env := by rfl) : QA X W (.Name x p :: es) (dRawA i dr) :=
  pa_imp (pa_cons he hr hs) fun σ H Q ⟨P, R, Xn, S, ⟨u, hb, h⟩, k, kx⟩ => by
    have hσ := S.e i _ hb
    exact ⟨_, hσ, P, _, Xn, S, h, fun vs G2 H2 as e2 S2 r2 h2 => k _ G2 H2 (.raw u :: as) e2 S2 (.cons rfl r2) h2, kx⟩
end
theorem dats_inj {ds : List PyData} : ∀ {es : List PyData}, ds.map En.dat = es.map En.dat → ds = es := by
  induction ds with
  | nil => intro es h; cases es with
    | nil => rfl
    | cons _ _ => cases h
  | cons d ds ih => intro es h; cases es with
    | nil => cases h
    | cons e es =>
      injection h with h1 h2
      injection h1 with h1
      rw [h1, ih h2]

/-! ### displays -/
def dTup (da : DA) : DE := fun E R Xn => da E (fun as => ∃ ds, as = ds.map .dat ∧ ds.length ≤ sizeLine ∧ R (.tuple ds)) Xn
def dLst (da : DA) : List En → (List PyData → Prop) → (Er → Prop) → Prop := fun E R Xn => da E (fun as => ∃ ds, as = ds.map .dat ∧ ds.length ≤ sizeLine ∧ R ds) Xn
abbrev DF := List En → (List PyData → Prop) → (Er → Prop) → Prop
/-- a new list, frozen at once -/
def dFz (df : DF) : DE := fun E R Xn => df E (fun ds => R (.list ds)) Xn
section
variable {X : Cx} {W : WX} {pos : Pos} {e : Expr} {es : List Expr} {da : DA} {df : DF}
theorem q_tup {k} (ha : QA X W es da) : QE X W (.Tuple es k pos) (dTup da) := pe_imp (pe_tup ha) fun σ H Q ⟨P, R, Xn, S, h, k, kx⟩ =>
  ⟨P, _, Xn, S, h, fun vs G1 H1 as e1 S1 r1 ⟨ds, ea, hl, hR⟩ => by
    subst ea
    have rr := r1.dats
    refine ⟨by rw [rr.length]; exact hl, fun p hp => ?_⟩
    have en := Ext.new (o := .tup vs) S1.w.s hp
    exact k _ _ _ _ (e1.trans en.any) (S1.pure en (same_new S1.w.s)) (.tup upd_same (rr.up en.g)) hR, kx⟩
theorem f_lst (ha : QA X W es da) : QF X W (.List es pos) (dLst da) := pe_imp (pe_lst ha) fun σ H Q ⟨P, R, Xn, S, h, k, kx⟩ =>
  ⟨P, _, Xn, S, h, fun vs G1 H1 as e1 S1 r1 ⟨ds, ea, hl, hR⟩ => by
    subst ea
    have rr := r1.dats
    refine ⟨by rw [rr.length]; exact hl, fun p hp => ?_⟩
    have en : Ext none G1 H1 G1 (upd H1 p (.lst vs)) := Ext.own hp
    exact k p vs _ _ ds (e1.trans en.any) (S1.pure en (same_own S1.w.s hp)) (e1.none_of hp) (S1.w.s.free hp) upd_same rr hR, kx⟩
theorem SR.freeze {bx : Option Bx} {G0 H0 G H G' H' : Hp} {σ : L2.St} {E : List En} (s : SR bx G0 H0 G' H' σ E) (e : Ext bx G H G' H') (s0 : SR bx G0 H0 G H σ E) {p : Addr} {o : HO} (hp : H p = none) (gp : G' p = none) (hx : H' p = some o) :
    Ext bx G H (upd G' p o) H' ∧ SR bx G0 H0 (upd G' p o) H' σ E := by
  have e2 := e.freeze (o := o) hp gp
  refine ⟨e2, s0.ext e2 ⟨same_freeze s.w.s hx, fun z hz => ?_⟩⟩
  obtain ⟨b1, b2⟩ := s.w.b z hz
  have nz : z.b ≠ p := fun q => by
    obtain ⟨_, hb⟩ := s0.w.b z hz
    obtain ⟨_, _, _, _, _, y, _⟩ := hb
    rw [q, hp] at y
    cases y
  refine ⟨by rw [upd_ne nz]; exact b1, b2.up (fun a u q => ?_) rfl⟩
  rw [upd_ne (ne_of_none q gp)]; exact q
theorem q_fz (h : QF X W e df) : QE X W e (dFz df) := pe_imp h fun σ H Q ⟨P, R, Xn, S, h, k, kx⟩ =>
  ⟨P, _, Xn, S, h, fun p xs G1 H1 ds e1 S1 hp gp hx rr hR => by
    obtain ⟨e2, S2⟩ := S1.freeze e1 S hp gp hx
    have gg : Same G1 (upd G1 p (.lst xs)) := fun a u q => by rw [upd_ne (ne_of_none q gp)]; exact q
    exact k _ _ _ _ e2 S2 (.lst upd_same (rr.up gg)) hR, kx⟩
end

/-! ### built-ins by their values -/
abbrev FC := List PyData → (PyData → Prop) → Prop
def RCOk (r : List V → Hp → VK → Prop) (f : FC) : Prop := ∀ (G H : Hp) (vs : List V) (ds : List PyData) (R : PyData → Prop) (Q : VK), Same G H → RpAll G vs ds → f ds R →
  (∀ u G' H' d, Ext none G H G' H' → Same G' H' → Rp G' u d → R d → Q u H') → r vs H Q
def dCB (f : FC) (da : DA) : DE := fun E R Xn => da E (fun as => ∃ ds, as = ds.map .dat ∧ f ds R) Xn
abbrev FCF := List PyData → (List PyData → Prop) → Prop
def RCFOk (r : List V → Hp → VK → Prop) (f : FCF) : Prop := ∀ (G H : Hp) (vs : List V) (ds : List PyData) (R : List PyData → Prop) (Q : VK), Same G H → RpAll G vs ds → f ds R →
  (∀ p xs es, H p = none → RpAll G xs es → R es → Q (.ref p) (upd H p (.lst xs))) → r vs H Q
def dCBF (f : FCF) (da : DA) : DF := fun E R Xn => da E (fun as => ∃ ds, as = ds.map .dat ∧ f ds R) Xn
section
variable {X : Cx} {W : WX} {pos p : Pos} {e : Expr} {es : List Expr} {da : DA} {df : DF} {x : Str} {id T : String} {r : List V → Hp → VK → Prop} {f : FC} {g : FCF}
theorem lift_cb (hs : RCOk r f) {K : PySem.W.Frag} {σ : L2.St} {H : Hp} {Q : VK} (h : liftE K W (dCB f da) σ H Q) : tCB r (liftA K W da) σ H Q := by
  obtain ⟨P, R, Xn, S, h, k, kx⟩ := h
  refine ⟨P, _, Xn, S, h, fun vs G1 H1 as e1 S1 r1 ⟨ds, ea, hR⟩ => ?_, kx⟩
  subst ea
  exact hs G1 H1 vs ds R Q S1.w.s r1.dats hR fun u G' H' d e2 s2 r2 h2 => k u G' H' d (e1.trans e2.any) (S1.pure e2 s2) r2 h2
theorem lift_cbf (hs : RCFOk r g) {K : PySem.W.Frag} {σ : L2.St} {H : Hp} {Q : VK} (h : liftF K W (dCBF g da) σ H Q) : tCB r (liftA K W da) σ H Q := by
  obtain ⟨P, R, Xn, S, h, k, kx⟩ := h
  refine ⟨P, _, Xn, S, h, fun vs G1 H1 as e1 S1 r1 ⟨ds, ea, hR⟩ => ?_, kx⟩
  subst ea
  refine hs G1 H1 vs ds R Q S1.w.s r1.dats hR fun p xs es hp rr hR => ?_
  have en : Ext none G1 H1 G1 (upd H1 p (.lst xs)) := Ext.own hp
  exact k p xs _ _ es (e1.trans en.any) (S1.pure en (same_own S1.w.s hp)) (e1.none_of hp) (S1.w.s.free hp) upd_same rr hR
/-- a built-in function, a built-in type, called -/
theorem q_callB (hc : CallR X (.builtin id) r) (hs : RCOk r f) (hm : X.mg x = none) (ha : QA X W (e :: es) da) (hg : Gl X x := by rfl) (hv : bootBuiltins x = some (.builtin id) := by decide +kernel) (hn : x ≠ "__name__" := by decide) (hdb : (x == ("__debug__" : Str)) = false := by decide)
    (he : starEach (e :: es) X.env = (false, eval e X.env) :: starEach es X.env := by rfl) (hpl : (backTo pos (starEach es X.env)).any (·.1) = false := by rfl) : QE X W (.Call (.Name x p) (e :: es) [] pos) (dCB f da) :=
  pe_imp (pe_callB hc hg hm hv ha hn hdb he hpl) fun _ _ _ => lift_cb hs
theorem q_callT (hc : CallR X (.type T) r) (hs : RCOk r f) (hm : X.mg x = none) (ha : QA X W (e :: es) da) (hg : Gl X x := by rfl) (hv : bootBuiltins x = some (.type T) := by decide +kernel) (hn : x ≠ "__name__" := by decide) (hdb : (x == ("__debug__" : Str)) = false := by decide)
    (he : starEach (e :: es) X.env = (false, eval e X.env) :: starEach es X.env := by rfl) (hpl : (backTo pos (starEach es X.env)).any (·.1) = false := by rfl) : QE X W (.Call (.Name x p) (e :: es) [] pos) (dCB f da) :=
  pe_imp (pe_callTy hc hg hm hv ha hn hdb he hpl) fun _ _ _ => lift_cb hs
theorem f_callB (hc : CallR X (.builtin id) r) (hs : RCFOk r g) (hm : X.mg x = none) (ha : QA X W (e :: es) da) (hg : Gl X x := by rfl) (hv : bootBuiltins x = some (.builtin id) := by decide +kernel) (hn : x ≠ "__name__" := by decide) (hdb : (x == ("__debug__" : Str)) = false := by decide)
    (he : starEach (e :: es) X.env = (false, eval e X.env) :: starEach es X.env := by rfl) (hpl : (backTo pos (starEach es X.env)).any (·.1) = false := by rfl) : QF X W (.Call (.Name x p) (e :: es) [] pos) (dCBF g da) :=
  pe_imp (pe_callB hc hg hm hv ha hn hdb he hpl) fun _ _ _ => lift_cbf hs
theorem f_callT (hc : CallR X (.type T) r) (hs : RCFOk r g) (hm : X.mg x = none) (ha : QA X W (e :: es) da) (hg : Gl X x := by rfl) (hv : bootBuiltins x = some (.type T) := by decide +kernel) (hn : x ≠ "__name__" := by decide) (hdb : (x == ("__debug__" : Str)) = false := by decide)
    (he : starEach (e :: es) X.env = (false, eval e X.env) :: starEach es X.env := by rfl) (hpl : (backTo pos (starEach es X.env)).any (·.1) = false := by rfl) : QF X W (.Call (.Name x p) (e :: es) [] pos) (dCBF g da) :=
  pe_imp (pe_callTy hc hg hm hv ha hn hdb he hpl) fun _ _ _ => lift_cbf hs
end
/-! len -/
def lenD : PyData → Option Nat
  | .list ds => some ds.length
  | .tuple ds => some ds.length
  | .str z => some z.length
  | _ => none
def fLen : FC := fun ds R => ∃ d n, ds = [d] ∧ lenD d = some n ∧ small d ∧ R (.int n)
theorem len_ok {K : PySem.W.Frag} : RCOk (fun xs H Q => ∃ x n, xs = [x] ∧ LenV K x H n ∧ Q (.int n) H) fLen := fun G H vs ds R Q s rr ⟨d, n, e, hl, hz, hR⟩ k => by
  subst e
  cases rr with
  | cons r1 r0 =>
    cases r0
    cases r1 with
    | @lst a xs es h1 a1 =>
      cases hl
      exact ⟨.ref a, xs.length, rfl, .inl ⟨xs, SqL.of (s _ _ h1), rfl⟩, k _ G H _ Ext.refl s (.int _) (by rw [a1.length]; exact hR)⟩
    | @tup a xs es h1 a1 =>
      cases hl
      exact ⟨.ref a, xs.length, rfl, .inr ⟨xs, SqT.of (s _ _ h1), rfl⟩, k _ G H _ Ext.refl s (.int _) (by rw [a1.length]; exact hR)⟩
    | str z =>
      cases hl
      exact ⟨.str z, z.length, rfl, ⟨hz, rfl⟩, k _ G H _ Ext.refl s (.int _) hR⟩
    | _ => cases hl
/-! list(x): a new list; tuple(x) -/
def itemsD : PyData → Option (List PyData)
  | .list ds => some ds
  | .tuple ds => some ds
  | _ => none
def fList : FCF := fun ds R => ∃ d es, ds = [d] ∧ itemsD d = some es ∧ R es
theorem list_ok {K : PySem.W.Frag} : RCFOk (fun xs H Q => ∃ p ys, xs = [.ref p] ∧ (SqL K H p ys ∨ SqT K H p ys) ∧ ∀ l, H l = none → Q (.ref l) (upd H l (.lst ys))) fList := fun G H vs ds R Q s rr ⟨d, es, e, hi, hR⟩ k => by
  subst e
  cases rr with
  | cons r1 r0 =>
    cases r0
    cases r1 with
    | @lst a xs es h1 a1 =>
      cases hi
      exact ⟨a, xs, rfl, .inl (SqL.of (s _ _ h1)), fun l hl => k l xs _ hl a1 hR⟩
    | @tup a xs es h1 a1 =>
      cases hi
      exact ⟨a, xs, rfl, .inr (SqT.of (s _ _ h1)), fun l hl => k l xs _ hl a1 hR⟩
    | _ => cases hi
def fTuple : FC := fun ds R => ∃ d es, ds = [d] ∧ itemsD d = some es ∧ R (.tuple es)
theorem tuple_ok {K : PySem.W.Frag} : RCOk (fun xs H Q => ∃ p ys, xs = [.ref p] ∧ ((SqL K H p ys ∧ ∀ l, H l = none → Q (.ref l) (upd H l (.tup ys))) ∨ (SqT K H p ys ∧ Q (.ref p) H))) fTuple := fun G H vs ds R Q s rr ⟨d, es, e, hi, hR⟩ k => by
  subst e
  cases rr with
  | cons r1 r0 =>
    cases r0
    cases r1 with
    | @lst a xs es h1 a1 =>
      cases hi
      refine ⟨a, xs, rfl, .inl ⟨SqL.of (s _ _ h1), fun l hl => ?_⟩⟩
      have en := Ext.new (o := .tup xs) s hl
      exact k _ _ _ _ en (same_new s) (.tup upd_same (a1.up en.g)) hR
    | @tup a xs es h1 a1 =>
      cases hi
      exact ⟨a, xs, rfl, .inr ⟨SqT.of (s _ _ h1), k _ G H _ Ext.refl s (.tup h1 a1) hR⟩⟩
    | _ => cases hi
/-! all, any -/
def fAll : FC := fun ds R => ∃ bs : List Bool, ds = [.list (bs.map .bool)] ∧ R (.bool (bs.all id))
def fAny : FC := fun ds R => ∃ bs : List Bool, ds = [.list (bs.map .bool)] ∧ R (.bool (bs.any id))
theorem all_ok {K : PySem.W.Frag} : RCOk (rAll K) fAll := fun G H vs ds R Q s rr ⟨bs, e, hR⟩ k => by
  subst e
  cases rr with
  | cons r1 r0 =>
    cases r0
    cases r1 with
    | @lst a xs es h1 a1 =>
      have e := a1.bls
      subst e
      exact ⟨a, bs, rfl, SqL.of (s _ _ h1), k _ G H _ Ext.refl s (.bl _) hR⟩
theorem any_ok {K : PySem.W.Frag} : RCOk (rAny K) fAny := fun G H vs ds R Q s rr ⟨bs, e, hR⟩ k => by
  subst e
  cases rr with
  | cons r1 r0 =>
    cases r0
    cases r1 with
    | @lst a xs es h1 a1 =>
      have e := a1.bls
      subst e
      exact ⟨a, bs, rfl, SqL.of (s _ _ h1), k _ G H _ Ext.refl s (.bl _) hR⟩
/-! int, str, min, max -/
def fInt : FC := fun ds R => (∃ i, ds = [.int i] ∧ R (.int i)) ∨ (∃ b, ds = [.bool b] ∧ R (.int (if b then 1 else 0))) ∨ ∃ a n, ds = [.str a] ∧ PySem.intText? a = some n ∧ a.length ≤ 640 ∧ R (.int n)
def rInt : List V → Hp → VK → Prop := fun xs H Q => ((∃ i, xs = [.int i] ∧ Q (.int i) H) ∨ ∃ k, xs = [.bl k] ∧ Q (.int (if k then 1 else 0)) H) ∨ ∃ a n, xs = [.str a] ∧ PySem.intText? a = some n ∧ a.length ≤ 640 ∧ Q (.int n) H
theorem call_intA {X : Cx} : CallR X (.type "int") rInt := CallR.or call_int1 call_int_str
theorem int_ok : RCOk rInt fInt := fun G H vs ds R Q s rr h k => by
  rcases h with ⟨i, e, hR⟩ | ⟨b, e, hR⟩ | ⟨a, n, e, h1, h2, hR⟩
  all_goals
    subst e
    obtain _ | ⟨r1, r0⟩ := rr
    cases r0
    cases r1
  · exact .inl (.inl ⟨i, rfl, k _ G H _ Ext.refl s (.int _) hR⟩)
  · exact .inl (.inr ⟨b, rfl, k _ G H _ Ext.refl s (.int _) hR⟩)
  · exact .inr ⟨a, n, rfl, h1, h2, k _ G H _ Ext.refl s (.int _) hR⟩
def fStr : FC := fun ds R => ∃ i : Int, ds = [.int i] ∧ i.natAbs.log2 < 1920 ∧ R (.str (toString i))
theorem str_ok : RCOk (fun xs H Q => ∃ i, xs = [.int i] ∧ i.natAbs.log2 < 1920 ∧ Q (.str (toString i)) H) fStr := fun G H vs ds R Q s rr ⟨i, e, h1, hR⟩ k => by
  subst e
  cases rr with
  | cons r1 r0 =>
    cases r0
    cases r1
    exact ⟨i, rfl, h1, k _ G H _ Ext.refl s (.str _) hR⟩
def fMin2 : FC := fun ds R => ∃ i j : Int, ds = [.int i, .int j] ∧ R (.int (if j < i then j else i))
def fMax2 : FC := fun ds R => ∃ i j : Int, ds = [.int i, .int j] ∧ R (.int (if j > i then j else i))
theorem min2_ok : RCOk (fun xs H Q => ∃ i j, xs = [.int i, .int j] ∧ Q (.int (if j < i then j else i)) H) fMin2 := fun G H vs ds R Q s rr ⟨i, j, e, hR⟩ k => by
  subst e
  cases rr with
  | cons r1 r0 =>
    cases r0 with
    | cons r2 r0 =>
      cases r0
      cases r1
      cases r2
      exact ⟨i, j, rfl, k _ G H _ Ext.refl s (.int _) hR⟩
theorem max2_ok : RCOk (fun xs H Q => ∃ i j, xs = [.int i, .int j] ∧ Q (.int (if j > i then j else i)) H) fMax2 := fun G H vs ds R Q s rr ⟨i, j, e, hR⟩ k => by
  subst e
  cases rr with
  | cons r1 r0 =>
    cases r0 with
    | cons r2 r0 =>
      cases r0
      cases r1
      cases r2
      exact ⟨i, j, rfl, k _ G H _ Ext.refl s (.int _) hR⟩
/-! sorted -/
def fSorted : FCF := fun ds R => (∃ ns : List Int, ds = [.list (ns.map .int)] ∧ ns.length < 64 ∧ ∀ ms : List Int, ms.Perm ns → ms.Pairwise (· ≤ ·) → R (ms.map .int)) ∨
  ∃ ns : List Str, ds = [.list (ns.map .str)] ∧ ns.length < 64 ∧ ∀ ms : List Str, ms.Perm ns → sortedS ms = true → R (ms.map .str)
def rSortedA (K : PySem.W.Frag) : List V → Hp → VK → Prop := fun vs H Q => rSorted K vs H Q ∨ rSortedS K vs H Q
theorem cr_sortedA {X : Cx} : CallR X (.builtin "sorted") (rSortedA X.K) := CallR.or cr_sorted cr_sortedS
theorem sorted_ok {K : PySem.W.Frag} : RCFOk (rSortedA K) fSorted := fun G H vs ds R Q s rr h k => by
  rcases h with ⟨ns, e, hl, hR⟩ | ⟨ns, e, hl, hR⟩
  all_goals
    subst e
    obtain _ | ⟨r1, r0⟩ := rr
    cases r0
    obtain _ | _ | _ | _ | ⟨h1, a1⟩ := r1
  · rename_i a xs
    have e := a1.ints
    subst e
    exact .inl ⟨a, ns, rfl, SqL.of (s _ _ h1), hl, fun ms p pm so hp => k p _ _ hp (rps_ints ms) (hR ms pm so)⟩
  · rename_i a xs
    have e := a1.strs
    subst e
    exact .inr ⟨a, ns, rfl, SqL.of (s _ _ h1), hl, fun ms p pm so hp => k p _ _ hp (rps_strs ms) (hR ms pm so)⟩
end Wx

namespace Wx
open PySem PySem.Spec PyProof.Rows L2

/-! ### isinstance of data -/
def tyD : PyData → String
  | .none => "NoneType"
  | .bool _ => "bool"
  | .int _ => "int"
  | .str _ => "str"
  | .list _ => "list"
  | .tuple _ => "tuple"
  | .dict _ => "dict"
def isS (T S : String) : Bool := S == T || (T == "int" && S == "bool")
def isD (T : String) (d : PyData) : Bool := isS T (tyD d)
theorem kit_all : ∀ S ∈ ["NoneType", "bool", "int", "str", "list", "tuple", "dict"], ∀ T ∈ ["int", "bool", "str", "list", "tuple"], kitB S T = some (isS T S) := by decide +kernel
theorem kit_data {K : PySem.W.Frag} {T : String} (hT : T ∈ ["int", "bool", "str", "list", "tuple"]) (d : PyData) : PySem.W.kitOne K (.type (tyD d)) (.type T) = some (isD T d) :=
  kit_ty (kit_all (tyD d) (by cases d <;> simp [tyD]) T hT)
theorem rp_ty {K : PySem.W.Frag} {G H : Hp} {v : V} {d : PyData} (s : Same G H) (r : Rp G v d) : TyX K H v (.type (tyD d)) := by
  cases r with
  | non => exact .base .non
  | bl b => exact .base (.bl b)
  | int i => exact .base (.int i)
  | str x => exact .base (.str x)
  | lst h _ => exact .base (.lst (s _ _ h))
  | tup h _ => exact .base (.tup (s _ _ h))
def dIsi (T : String) (de : DE) : DE := fun E R Xn => de E (fun d => R (.bool (isD T d))) Xn
section
variable {X : Cx} {W : WX} {pos p p2 : Pos} {a : Expr} {da : DE} {T : String} {x : Str}
theorem q_isi (hT : T ∈ ["int", "bool", "str", "list", "tuple"]) (hm : X.mg "isinstance" = none) (hx : X.mg x = none) (ha : QE X W a da) (hgx : Gl X x := by rfl) (hv : bootBuiltins x = some (.type T) := by decide +kernel) (hg : Gl X "isinstance" := by rfl) (hnx : x ≠ "__name__" := by decide) (hdx : (x == ("__debug__" : Str)) = false := by decide)
    (he : starEach [a, .Name x p2] X.env = (false, eval a X.env) :: starEach [.Name x p2] X.env := by rfl) (he2 : starEach [.Name x p2] X.env = (false, eval (.Name x p2) X.env) :: starEach [] X.env := by rfl) (hpl : (backTo pos (starEach [.Name x p2] X.env)).any (·.1) = false := by rfl) :
    QE X W (.Call (.Name "isinstance" p) [a, .Name x p2] [] pos) (dIsi T da) :=
  pe_imp (pe_callB (id := "isinstance") call_isi hg hm (by decide +kernel) (pa_cons ha (pa_cons (pe_bltn (v := .ty T) (u := .type T) hgx hx hv rfl hnx hdx) pa_nil he2) he) (by decide) (by decide) he hpl) fun σ H Q ⟨P, R, Xn, S, h, k, kx⟩ =>
  ⟨P, _, Xn, S, h, fun v G1 H1 d e1 S1 r1 hR => ⟨v, .ty T, .type (tyD d), .type T, isD T d, rfl, .ty T, rp_ty S1.w.s r1, kit_data hT d, k _ G1 H1 _ e1 S1 (.bl _) hR⟩, kx⟩
end

/-! ### slices -/
def cutD (ds : List PyData) (lo hi : Option Int) : List PyData := (ds.drop (HT.sIx ds.length 0 lo)).take (HT.sIx ds.length ds.length hi - HT.sIx ds.length 0 lo)
theorem cut_rp {G : Hp} {xs : List V} {ds : List PyData} (r : RpAll G xs ds) (lo hi : Option Int) : RpAll G (cutV xs lo hi) (cutD ds lo hi) := by
  unfold cutV cutD
  rw [r.length]
  exact (r.dr _).tk _
abbrev DO := List En → (Option Int → Prop) → (Er → Prop) → Prop
def oNone : DO := fun _ R _ => R none
def oSome (de : DE) : DO := fun E R Xn => de E (fun d => ∃ i, d = .int i ∧ R (some i)) Xn
def liftO (K : PySem.W.Frag) (W : WX) (dO : DO) : TO := fun σ H Q => ∃ (P : Pt) (R : Option Int → Prop) (Xn : Er → Prop), P.ok H σ ∧ dO P.E R Xn ∧
  (∀ o G' H', Ext P.bx P.G H G' H' → (P.go G').ok H' σ → R o → Q o H') ∧ ErTo K W P σ Xn
abbrev QO (X : Cx) (W : WX) (e : Option Expr) (dO : DO) : Prop := PO X e (liftO X.K W dO)
def dSl (f : PyData → Option Int → Option Int → (PyData → Prop) → Prop) (de : DE) (d1 d2 : DO) : DE := fun E R Xn => de E (fun d => d1 E (fun lo => d2 E (fun hi => f d lo hi R) Xn) Xn) Xn
def dSlF (f : PyData → Option Int → Option Int → (List PyData → Prop) → Prop) (de : DE) (d1 d2 : DO) : DF := fun E R Xn => de E (fun d => d1 E (fun lo => d2 E (fun hi => f d lo hi R) Xn) Xn) Xn
/-- a tuple's, a text's part -/
def fCut (d : PyData) (lo hi : Option Int) (R : PyData → Prop) : Prop := match d with
  | .tuple ds => R (.tuple (cutD ds lo hi))
  | .str z => z.length ≤ sizeLine ∧ R (.str (cutS z lo hi))
  | _ => False
def fCutL (d : PyData) (lo hi : Option Int) (R : List PyData → Prop) : Prop := match d with
  | .list ds => R (cutD ds lo hi)
  | _ => False
section
variable {X : Cx} {W : WX} {pos p2 : Pos} {a e : Expr} {lo hi : Option Expr} {da de : DE} {d1 d2 : DO}
theorem po_imp {e : Option Expr} {t t' : TO} (h : PO X e t) (i : ∀ σ H Q, t' σ H Q → t σ H Q) : PO X e t' := ⟨fun pins s σ H Q I q => h.run pins s σ H Q I (i σ H Q q)⟩
theorem o_none : QO X W none oNone := po_imp po_none fun σ H Q ⟨P, R, Xn, S, h, k, kx⟩ => k none P.G H Ext.refl S h
theorem o_some (h : QE X W e de) : QO X W (some e) (oSome de) := po_imp (po_some h) fun σ H Q ⟨P, R, Xn, S, h, k, kx⟩ =>
  ⟨P, _, Xn, S, h, fun v G1 H1 d e1 S1 r1 ⟨i, ei, hR⟩ => by
    subst ei
    cases r1
    exact ⟨i, rfl, k _ G1 H1 e1 S1 hR⟩, kx⟩
theorem q_cut (ha : QE X W a da) (h1 : QO X W lo d1) (h2 : QO X W hi d2) : QE X W (.Subscript a (.Slice lo hi none p2) pos) (dSl fCut da d1 d2) :=
  pe_imp (pe_slice (SlR.or sl_str sl_tupA) ha h1 h2) fun σ H Q ⟨P, R, Xn, S, h, k, kx⟩ =>
  ⟨P, _, Xn, S, h, fun v G1 H1 d e1 S1 r1 h1 => ⟨P.go G1, _, Xn, S1, h1, fun lo G2 H2 e2 S2 h2 => ⟨P.go G2, _, Xn, S2, h2, fun hi G3 H3 e3 S3 h3 => by
    have e := e1.trans (e2.trans e3)
    have r3 := r1.up (e2.trans e3).g
    cases r3 with
    | str z => exact .inl ⟨z, rfl, h3.1, k _ G3 H3 _ e S3 (.str _) h3.2⟩
    | @tup a xs ds h4 a4 =>
      refine .inr ⟨a, xs, rfl, SqT.of (S3.w.s _ _ h4), fun hw => ?_, fun hw p hp => ?_⟩
      · have ew : cutD ds lo hi = ds := by
          unfold cutD
          rw [← a4.length, hw.1, hw.2, List.drop_zero, Nat.sub_zero, a4.length, List.take_length]
        have h3 : R (.tuple (cutD ds lo hi)) := h3
        rw [ew] at h3
        exact k _ G3 H3 _ e S3 (.tup h4 a4) h3
      · have en := Ext.new (o := .tup (cutV xs lo hi)) S3.w.s hp
        exact k _ _ _ _ (e.trans en.any) (S3.pure en (same_new S3.w.s)) (.tup upd_same ((cut_rp a4 lo hi).up en.g)) h3
    | _ => exact h3.elim, kx⟩, kx⟩, kx⟩
theorem f_cut (ha : QE X W a da) (h1 : QO X W lo d1) (h2 : QO X W hi d2) : QF X W (.Subscript a (.Slice lo hi none p2) pos) (dSlF fCutL da d1 d2) :=
  pe_imp (pe_slice sl_list ha h1 h2) fun σ H Q ⟨P, R, Xn, S, h, k, kx⟩ =>
  ⟨P, _, Xn, S, h, fun v G1 H1 d e1 S1 r1 h1 => ⟨P.go G1, _, Xn, S1, h1, fun lo G2 H2 e2 S2 h2 => ⟨P.go G2, _, Xn, S2, h2, fun hi G3 H3 e3 S3 h3 => by
    have e := e1.trans (e2.trans e3)
    have r3 := r1.up (e2.trans e3).g
    cases r3 with
    | @lst a xs ds h4 a4 =>
      refine ⟨a, xs, rfl, SqL.of (S3.w.s _ _ h4), fun p hp => ?_⟩
      have en : Ext none G3 H3 G3 (upd H3 p (.lst (cutV xs lo hi))) := Ext.own hp
      exact k p _ _ _ _ (e.trans en.any) (S3.pure en (same_own S3.w.s hp)) (e.none_of hp) (S3.w.s.free hp) upd_same (cut_rp a4 lo hi) h3
    | _ => exact h3.elim, kx⟩, kx⟩, kx⟩
/-- a slice of either kind, a list's frozen -/
def fCutA (d : PyData) (lo hi : Option Int) (R : PyData → Prop) : Prop := match d with
  | .tuple ds => R (.tuple (cutD ds lo hi))
  | .list ds => R (.list (cutD ds lo hi))
  | .str z => z.length ≤ sizeLine ∧ R (.str (cutS z lo hi))
  | _ => False
theorem q_cutA (ha : QE X W a da) (h1 : QO X W lo d1) (h2 : QO X W hi d2) : QE X W (.Subscript a (.Slice lo hi none p2) pos) (dSl fCutA da d1 d2) :=
  pe_imp (pe_slice (SlR.or sl_str (SlR.or sl_tupA sl_list)) ha h1 h2) fun σ H Q ⟨P, R, Xn, S, h, k, kx⟩ =>
  ⟨P, _, Xn, S, h, fun v G1 H1 d e1 S1 r1 h1 => ⟨P.go G1, _, Xn, S1, h1, fun lo G2 H2 e2 S2 h2 => ⟨P.go G2, _, Xn, S2, h2, fun hi G3 H3 e3 S3 h3 => by
    have e := e1.trans (e2.trans e3)
    have r3 := r1.up (e2.trans e3).g
    cases r3 with
    | str z => exact .inl ⟨z, rfl, h3.1, k _ G3 H3 _ e S3 (.str _) h3.2⟩
    | @tup a xs ds h4 a4 =>
      refine .inr (.inl ⟨a, xs, rfl, SqT.of (S3.w.s _ _ h4), fun hw => ?_, fun hw p hp => ?_⟩)
      · have ew : cutD ds lo hi = ds := by
          unfold cutD
          rw [← a4.length, hw.1, hw.2, List.drop_zero, Nat.sub_zero, a4.length, List.take_length]
        have h3 : R (.tuple (cutD ds lo hi)) := h3
        rw [ew] at h3
        exact k _ G3 H3 _ e S3 (.tup h4 a4) h3
      · have en := Ext.new (o := .tup (cutV xs lo hi)) S3.w.s hp
        exact k _ _ _ _ (e.trans en.any) (S3.pure en (same_new S3.w.s)) (.tup upd_same ((cut_rp a4 lo hi).up en.g)) h3
    | @lst a xs ds h4 a4 =>
      refine .inr (.inr ⟨a, xs, rfl, SqL.of (S3.w.s _ _ h4), fun p hp => ?_⟩)
      have en := Ext.new (o := .lst (cutV xs lo hi)) S3.w.s hp
      exact k _ _ _ _ (e.trans en.any) (S3.pure en (same_new S3.w.s)) (.lst upd_same ((cut_rp a4 lo hi).up en.g)) h3
    | _ => exact h3.elim, kx⟩, kx⟩, kx⟩
end

/-! ### a list of one's own, read as data for a while -/
mutual
def noL : PyData → Bool
  | .list _ => false
  | .tuple ds => noLs ds
  | .dict _ => false
  | _ => true
def noLs : List PyData → Bool
  | [] => true
  | d :: ds => noL d && noLs ds
end
def cutH (G : Hp) (p : Addr) : Hp := fun a => if a = p then none else G a
theorem cutH_ne {G : Hp} {p a : Addr} (h : a ≠ p) : cutH G p a = G a := if_neg h
theorem cutH_same {G : Hp} {p : Addr} : cutH G p p = none := if_pos rfl
mutual
theorem rp_cut {G : Hp} {p : Addr} {xs : List V} (hp : G p = some (.lst xs)) : ∀ (d : PyData) (v : V), noL d = true → Rp G v d → Rp (cutH G p) v d
  | .none, _, _, h => by cases h; exact .non
  | .bool b, _, _, h => by cases h; exact .bl b
  | .int i, _, _, h => by cases h; exact .int i
  | .str x, _, _, h => by cases h; exact .str x
  | .list ds, _, n, _ => by cases n
  | .tuple ds, _, n, h => by
    cases h with
    | tup hs ha => exact .tup (by rw [cutH_ne (ne_of hs hp (by intro z; cases z))]; exact hs) (rps_cut hp ds _ n ha)
  | .dict _, _, n, _ => by cases n
theorem rps_cut {G : Hp} {p : Addr} {xs : List V} (hp : G p = some (.lst xs)) : ∀ (ds : List PyData) (vs : List V), noLs ds = true → RpAll G vs ds → RpAll (cutH G p) vs ds
  | [], _, _, h => by cases h; exact .nil
  | d :: ds, _, n, h => by
    have n2 : (noL d && noLs ds) = true := n
    rw [Bool.and_eq_true] at n2
    cases h with
    | cons h1 h2 => exact .cons (rp_cut hp d _ n2.1 h1) (rps_cut hp ds _ n2.2 h2)
end
section
variable {bx : Option Bx} {G0 H0 G H G' H' : Hp} {σ : L2.St} {E : List En}
/-- behind what was done while the list at p lay frozen: it is one's own again -/
theorem SR.back (s : SR bx G0 H0 G H σ E) {i : Nat} {p : Addr} {xs : List V} {ds : List PyData} (hi : E[i]? = some (.own ds)) (hσ : σ[i]? = some (some (.ref p))) (hx : H p = some (.lst xs))
    (e : Ext bx (upd G p (.lst xs)) H G' H') (w : Wo bx G' H') : G' p = some (.lst xs) ∧ Ext bx G H (cutH G' p) H' ∧ SR bx G0 H0 (cutH G' p) H' σ E := by
  obtain ⟨p', xs0, z1, z2, z3, z4, z5, z6⟩ := s.e i _ hi
  rw [hσ] at z1
  cases z1
  have gp : G' p = some (.lst xs) := e.g p _ upd_same
  have gg : Same G (cutH G' p) := fun a o q => by
    have np := ne_of_none q z3
    rw [cutH_ne np]
    exact e.g a o (by rw [upd_ne np]; exact q)
  have e2 : Ext bx G H (cutH G' p) H' := ⟨gg, e.h, fun a o q => by
    by_cases h : a = p
    · rw [h, cutH_same] at q; cases q
    · rw [cutH_ne h] at q
      rcases e.n a o q with y | y
      · rw [upd_ne h] at y; exact .inl y
      · exact .inr y, e.al⟩
  refine ⟨gp, e2, s.ext e2 ⟨fun a o q => ?_, fun z hz => ?_⟩⟩
  · by_cases h : a = p
    · rw [h, cutH_same] at q; cases q
    · rw [cutH_ne h] at q
      exact w.s a o q
  · obtain ⟨b1, ns, y1, y2, y3, y4, y5, y6, y7⟩ := w.b z hz
    obtain ⟨_, _, _, _, _, _, _, y6', _⟩ := s.w.b z hz
    refine ⟨?_, ns, y1, y2, y3, y4, y5, ?_, y7⟩
    · by_cases h : z.b = p
      · rw [h, cutH_same]
      · rw [cutH_ne h]; exact b1
    · -- the box's first item is no list of one's own
      have na : z.a ≠ p := by
        cases y6' with
        | lst h _ => exact fun q => by rw [q, z3] at h; cases h
      cases y6 with
      | lst h ha =>
        have e3 := ha.ints
        subst e3
        exact .lst (by rw [cutH_ne na]; exact h) (rps_ints _)
end
/-- slot i, a list of one's own, read as data; what comes back holds no list -/
def dBw (i : Nat) (de : DE) : DE := fun E R _ => ∃ ds, E[i]? = some (.own ds) ∧ de (E.set i (.dat (.list ds))) (fun d => noL d = true ∧ R d) (fun _ => False)
def dBwT (i : Nat) (dt : DT) : DT := fun E R _ => ∃ ds, E[i]? = some (.own ds) ∧ dt (E.set i (.dat (.list ds))) R (fun _ => False)
def dBwF (i : Nat) (df : DF) : DF := fun E R _ => ∃ ds, E[i]? = some (.own ds) ∧ df (E.set i (.dat (.list ds))) (fun es => noLs es = true ∧ R es) (fun _ => False)
section
variable {X : Cx} {W : WX} {e : Expr} {de : DE} {dt : DT} {df : DF}
theorem q_bw (i : Nat) (h : QE X W e de) : QE X W e (dBw i de) := pe_imp h fun σ H Q ⟨P, R, Xn, S, ⟨ds, hi, h⟩, k, kx⟩ => by
  obtain ⟨p, xs, z1, z2, z3, z4, z5, z6⟩ := S.e i _ hi
  obtain ⟨S2, _⟩ := S.frz hi z1 z5
  refine ⟨⟨P.bx, P.G0, P.H0, upd P.G p (.lst xs), P.E.set i (.dat (.list ds))⟩, _, _, S2, h, fun v G1 H1 d e1 S1 r1 ⟨hn, hR⟩ => ?_, fun _ _ _ _ _ _ _ f => f.elim⟩
  obtain ⟨gp, e2, S3⟩ := S.back hi z1 z5 e1 S1.w
  exact k v _ H1 d e2 S3 (rp_cut gp d v hn r1) hR
theorem t_bw (i : Nat) (h : QT X W e dt) : QT X W e (dBwT i dt) := pt_imp h fun σ H Q ⟨P, R, Xn, S, ⟨ds, hi, h⟩, k, kx⟩ => by
  obtain ⟨p, xs, z1, z2, z3, z4, z5, z6⟩ := S.e i _ hi
  obtain ⟨S2, _⟩ := S.frz hi z1 z5
  refine ⟨⟨P.bx, P.G0, P.H0, upd P.G p (.lst xs), P.E.set i (.dat (.list ds))⟩, _, _, S2, h, fun b G1 H1 e1 S1 hR => ?_, fun _ _ _ _ _ _ _ f => f.elim⟩
  obtain ⟨gp, e2, S3⟩ := S.back hi z1 z5 e1 S1.w
  exact k b _ H1 e2 S3 hR
theorem f_bw (i : Nat) (h : QF X W e df) : QF X W e (dBwF i df) := pe_imp h fun σ H Q ⟨P, R, Xn, S, ⟨ds, hi, h⟩, k, kx⟩ => by
  obtain ⟨p, xs, z1, z2, z3, z4, z5, z6⟩ := S.e i _ hi
  obtain ⟨S2, _⟩ := S.frz hi z1 z5
  refine ⟨⟨P.bx, P.G0, P.H0, upd P.G p (.lst xs), P.E.set i (.dat (.list ds))⟩, _, _, S2, h, fun q ys G1 H1 es e1 S1 hq gq hx rr ⟨hn, hR⟩ => ?_, fun _ _ _ _ _ _ _ f => f.elim⟩
  obtain ⟨gp, e2, S3⟩ := S.back hi z1 z5 e1 S1.w
  refine k q ys _ H1 es e2 S3 hq ?_ hx (rps_cut gp es ys hn rr) hR
  by_cases h : q = p
  · rw [h, cutH_same]
  · rw [cutH_ne h]; exact gq
/-- truth of data -/
def truD : PyData → Bool
  | .none => false
  | .bool b => b
  | .int i => i != 0
  | .str z => (z.length : Int) != 0
  | .list ds => !ds.isEmpty
  | .tuple ds => !ds.isEmpty
  | .dict _ => false
def dTru (de : DE) : DT := fun E R Xn => de E (fun d => small d ∧ R (truD d)) Xn
theorem rps_empty {G : Hp} {xs : List V} {ds : List PyData} (r : RpAll G xs ds) : (!xs.isEmpty) = !ds.isEmpty := by cases r <;> rfl
theorem t_tru (h : QE X W e de) (he : ∀ whole, isTrue e X.env whole = (do let v ← whole; standAt e.pos; holding [v] (truthy v)) := by intro _; rfl) : QT X W e (dTru de) := pt_imp (pt_truth h he) fun σ H Q ⟨P, R, Xn, S, h, k, kx⟩ =>
  ⟨P, _, Xn, S, h, fun v G1 H1 d e1 S1 r1 ⟨hz, hR⟩ => by
    refine ⟨truD d, ?_, k _ G1 H1 e1 S1 hR⟩
    cases r1 with
    | non => rfl
    | bl b => rfl
    | int i => rfl
    | str x => exact ⟨hz, rfl⟩
    | lst h a => exact .inl ⟨_, SqL.of (S1.w.s _ _ h), (rps_empty a).symm⟩
    | tup h a => exact .inr (.inl ⟨_, SqT.of (S1.w.s _ _ h), (rps_empty a).symm⟩), kx⟩
end

/-! ### defs of the program's own -/
/-- a def's promise over data: its arguments, what comes back, what is raised -/
abbrev DSp := List En → (PyData → Prop) → (Er → Prop) → Prop
abbrev DSpF := List En → (List PyData → Prop) → (Er → Prop) → Prop
def ErS (K : PySem.W.Frag) (bx : Option Bx) (G H : Hp) (Xn : Er → Prop) (E : XK) : Prop := ∀ x cls dd G' H', Ext bx G H G' H' → Wo bx G' H' → ErOk K G' H' x cls dd → Xn x → E cls dd H'
def spF (K : PySem.W.Frag) (sp : DSp) : Sp := fun vs H Q E => ∃ (bx : Option Bx) (G : Hp) (as : List En) (R : PyData → Prop) (Xn : Er → Prop), Wo bx G H ∧ ArgsOk bx G vs as ∧ sp as R Xn ∧
  (∀ v G' H' d, Ext bx G H G' H' → Wo bx G' H' → Rp G' v d → R d → Q v H') ∧ ErS K bx G H Xn E
def spO (K : PySem.W.Frag) (sp : DSpF) : Sp := fun vs H Q E => ∃ (bx : Option Bx) (G : Hp) (as : List En) (R : List PyData → Prop) (Xn : Er → Prop), Wo bx G H ∧ ArgsOk bx G vs as ∧ sp as R Xn ∧
  (∀ p xs G' H' ds, Ext bx G H G' H' → Wo bx G' H' → H p = none → G' p = none → H' p = some (.lst xs) → RpAll G' xs ds → R ds → Q (.ref p) H') ∧ ErS K bx G H Xn E
/-- a def as it stands behind the top: found by its name -/
structure DefAt (P : Program) (w : World) (K : PySem.W.Frag) (mg : Str → Option Value) (base : Heap) (CX : CXT) (k : Nat) (x : Str) (ps : List Str) (sp : Sp) : Prop where
  ok : ∃ fd, FnOk P w K mg base CX k (He.ga K x) fd ps sp ∧ Binds K fd ps [] ∧ PySem.W.keepIn K (.ref (He.ga K x)) = true ∧ mg x = some (.ref (He.ga K x))
def dCall (sp : DSp) (da : DA) : DE := fun E R Xn => da E (fun as => sp as R (fun _ => False)) Xn
def dCallF (sp : DSpF) (da : DA) : DF := fun E R Xn => da E (fun as => sp as R (fun _ => False)) Xn
def dCallX (sp : DSp) (da : DA) : DE := fun E R Xn => da E (fun as => sp as R Xn) Xn
def dCallXF (sp : DSpF) (da : DA) : DF := fun E R Xn => da E (fun as => sp as R Xn) Xn
section
variable {X : Cx} {W : WX} {pos p : Pos} {e : Expr} {es : List Expr} {da : DA} {x : Str} {k : Nat} {ps : List Str} {sp : DSp} {sq : DSpF} {CX : CXT}
theorem lift_call {K : PySem.W.Frag} {σ : L2.St} {H : Hp} {Q : VK} (h : liftE K W (dCall sp da) σ H Q) : tCall (spF K sp) [] E0 (liftA K W da) σ H Q := by
  obtain ⟨P, R, Xn, S, h, k, kx⟩ := h
  refine ⟨P, _, Xn, S, h, fun vs G1 H1 as e1 S1 r1 h1 => ?_, kx⟩
  show spF K sp (vs ++ []) H1 Q E0
  rw [List.append_nil]
  exact ⟨P.bx, G1, as, R, _, S1.w, r1, h1, fun v G' H' d e2 w2 r2 hR => k v G' H' d (e1.trans e2) (S1.ext e2 w2) r2 hR, fun _ _ _ _ _ _ _ _ f => f.elim⟩
theorem lift_callF {K : PySem.W.Frag} {σ : L2.St} {H : Hp} {Q : VK} (h : liftF K W (dCallF sq da) σ H Q) : tCall (spO K sq) [] E0 (liftA K W da) σ H Q := by
  obtain ⟨P, R, Xn, S, h, k, kx⟩ := h
  refine ⟨P, _, Xn, S, h, fun vs G1 H1 as e1 S1 r1 h1 => ?_, kx⟩
  show spO K sq (vs ++ []) H1 Q E0
  rw [List.append_nil]
  exact ⟨P.bx, G1, as, R, _, S1.w, r1, h1, fun p xs G' H' ds e2 w2 hp gp hx rr hR => k p xs G' H' ds (e1.trans e2) (S1.ext e2 w2) (e1.none_of hp) gp hx rr hR, fun _ _ _ _ _ _ _ _ f => f.elim⟩
theorem lift_callX {K : PySem.W.Frag} {σ : L2.St} {H : Hp} {Q : VK} (h : liftE K W (dCallX sp da) σ H Q) : tCallS (spF K sp) (WE W) (liftA K W da) σ H Q := by
  obtain ⟨P, R, Xn, S, h, k, kx⟩ := h
  refine ⟨P, _, Xn, S, h, fun vs G1 H1 as e1 S1 r1 h1 => ?_, kx⟩
  exact ⟨P.bx, G1, as, R, Xn, S1.w, r1, h1, fun v G' H' d e2 w2 r2 hR => k v G' H' d (e1.trans e2) (S1.ext e2 w2) r2 hR, fun x cls dd G' H' e2 w2 er hx => kx x cls dd G' H' (S1.ext e2 w2) er hx⟩
theorem lift_callXF {K : PySem.W.Frag} {σ : L2.St} {H : Hp} {Q : VK} (h : liftF K W (dCallXF sq da) σ H Q) : tCallS (spO K sq) (WE W) (liftA K W da) σ H Q := by
  obtain ⟨P, R, Xn, S, h, k, kx⟩ := h
  refine ⟨P, _, Xn, S, h, fun vs G1 H1 as e1 S1 r1 h1 => ?_, kx⟩
  exact ⟨P.bx, G1, as, R, Xn, S1.w, r1, h1, fun p xs G' H' ds e2 w2 hp gp hx rr hR => k p xs G' H' ds (e1.trans e2) (S1.ext e2 w2) (e1.none_of hp) gp hx rr hR, fun x cls dd G' H' e2 w2 er hx => kx x cls dd G' H' (S1.ext e2 w2) er hx⟩
/-- nothing is let out of the call -/
def Quiet (CX : CXT) (X : Cx) : Prop := Passes CX X E0
theorem quiet0 : Quiet CX0 X := pass0
theorem quietX : Quiet (L2.CX X.prog X.w) X := passL
theorem q_call {k0 : Nat} (F : DefAt X.prog X.w X.K X.mg X.base CX k0 x ps (spF X.K sp)) (hr : Room k X.A) (hq : Quiet CX X) (ha : QA X W (e :: es) da) (hk : k0 ≤ k := by decide) (hg : Gl X x := by rfl) (hdb : (x == ("__debug__" : Str)) = false := by decide) (he : starEach (e :: es) X.env = (false, eval e X.env) :: starEach es X.env := by rfl) (hpl : (backTo pos (starEach es X.env)).any (·.1) = false := by rfl) :
    QE X W (.Call (.Name x p) (e :: es) [] pos) (dCall sp da) := by
  obtain ⟨fd, F, b, kp, gl⟩ := F.ok
  exact pe_imp (pe_call F (hr.mono hk) hg gl kp b .nil hq ha hdb he hpl) fun _ _ _ => lift_call
theorem f_call {k0 : Nat} (F : DefAt X.prog X.w X.K X.mg X.base CX k0 x ps (spO X.K sq)) (hr : Room k X.A) (hq : Quiet CX X) (ha : QA X W (e :: es) da) (hk : k0 ≤ k := by decide) (hg : Gl X x := by rfl) (hdb : (x == ("__debug__" : Str)) = false := by decide) (he : starEach (e :: es) X.env = (false, eval e X.env) :: starEach es X.env := by rfl) (hpl : (backTo pos (starEach es X.env)).any (·.1) = false := by rfl) :
    QF X W (.Call (.Name x p) (e :: es) [] pos) (dCallF sq da) := by
  obtain ⟨fd, F, b, kp, gl⟩ := F.ok
  exact pe_imp (pe_call F (hr.mono hk) hg gl kp b .nil hq ha hdb he hpl) fun _ _ _ => lift_callF
theorem q_call0 {k0 : Nat} (F : DefAt X.prog X.w X.K X.mg X.base CX k0 x ps (spF X.K sp)) (hr : Room k X.A) (hq : Quiet CX X) (hk : k0 ≤ k := by decide) (hg : Gl X x := by rfl) (hdb : (x == ("__debug__" : Str)) = false := by decide) : QE X W (.Call (.Name x p) [] [] pos) (dCall sp dNil) := by
  obtain ⟨fd, F, b, kp, gl⟩ := F.ok
  refine pe_imp (pe_call0 F (hr.mono hk) hg gl kp b .nil hq hdb) fun σ H Q ⟨P, R, Xn, S, h, k, kx⟩ => ?_
  exact ⟨P.bx, P.G, [], R, _, S.w, .nil, h, fun v G' H' d e2 w2 r2 hR => k v G' H' d e2 (S.ext e2 w2) r2 hR, fun _ _ _ _ _ _ _ _ f => f.elim⟩
theorem q_callX {k0 : Nat} (F : DefAt X.prog X.w X.K X.mg X.base (L2.CX X.prog X.w) k0 x ps (spF X.K sp)) (hr : Room k X.A) (tk : Takes X W) (ha : QA X W (e :: es) da) (hk : k0 ≤ k := by decide) (hg : Gl X x := by rfl) (hdb : (x == ("__debug__" : Str)) = false := by decide) (he : starEach (e :: es) X.env = (false, eval e X.env) :: starEach es X.env := by rfl) (hpl : (backTo pos (starEach es X.env)).any (·.1) = false := by rfl) :
    QE X W (.Call (.Name x p) (e :: es) [] pos) (dCallX sp da) := by
  obtain ⟨fd, F, b, kp, gl⟩ := F.ok
  exact pe_imp (pe_callS F (hr.mono hk) hg gl kp b (fun σ => passAt tk σ) ha hdb he hpl) fun _ _ _ => lift_callX
theorem f_callX {k0 : Nat} (F : DefAt X.prog X.w X.K X.mg X.base (L2.CX X.prog X.w) k0 x ps (spO X.K sq)) (hr : Room k X.A) (tk : Takes X W) (ha : QA X W (e :: es) da) (hk : k0 ≤ k := by decide) (hg : Gl X x := by rfl) (hdb : (x == ("__debug__" : Str)) = false := by decide) (he : starEach (e :: es) X.env = (false, eval e X.env) :: starEach es X.env := by rfl) (hpl : (backTo pos (starEach es X.env)).any (·.1) = false := by rfl) :
    QF X W (.Call (.Name x p) (e :: es) [] pos) (dCallXF sq da) := by
  obtain ⟨fd, F, b, kp, gl⟩ := F.ok
  exact pe_imp (pe_callS F (hr.mono hk) hg gl kp b (fun σ => passAt tk σ) ha hdb he hpl) fun _ _ _ => lift_callXF
end
end Wx

namespace Wx
open PySem PySem.Spec PyProof.Rows L2

/-! ### what is walked: its items as data -/
/-- turn by turn, in any heap in which G stands, J gives these items -/
structure Src (G : Hp) (J : It) (items : List PyData) : Prop where
  go : ∀ (i : Nat) (G2 H2 : Hp), Same G G2 → Same G2 H2 → i < items.length → J.go i H2
  stop : ∀ (i : Nat) (G2 H2 : Hp), Same G G2 → Same G2 H2 → items.length ≤ i → J.stop i H2
  yld : ∀ (i : Nat) (G2 H2 : Hp) (x : V) (H' : Hp), Same G G2 → Same G2 H2 → i < items.length → J.yld i H2 x H' → ∃ (G3 : Hp) (d : PyData), Ext none G2 H2 G3 H' ∧ Same G3 H' ∧ items[i]? = some d ∧ Rp G3 x d
theorem src_list {K : PySem.W.Frag} {G : Hp} {a : Addr} {xs : List V} {ds : List PyData} (h : G a = some (.lst xs)) (r : RpAll G xs ds) : Src G (Itl K a) ds where
  go := fun i G2 H2 s t hi => ⟨xs, xs[i]'(by rw [r.length]; exact hi), SqL.of (t _ _ (s _ _ h)), by simp [r.length, hi]⟩
  stop := fun i G2 H2 s t hi => ⟨xs, SqL.of (t _ _ (s _ _ h)), by rw [r.length]; exact hi⟩
  yld := fun i G2 H2 x H' s t hi ⟨e, q⟩ => by
    subst e
    obtain ⟨d, h1, h2⟩ := r.of_at (q xs (SqL.of (t _ _ (s _ _ h))))
    exact ⟨G2, d, Ext.refl, t, h1, h2.up s⟩
theorem src_tup {K : PySem.W.Frag} {G : Hp} {a : Addr} {xs : List V} {ds : List PyData} (h : G a = some (.tup xs)) (r : RpAll G xs ds) : Src G (Itt K a) ds where
  go := fun i G2 H2 s t hi => ⟨xs, xs[i]'(by rw [r.length]; exact hi), SqT.of (t _ _ (s _ _ h)), by simp [r.length, hi]⟩
  stop := fun i G2 H2 s t hi => ⟨xs, SqT.of (t _ _ (s _ _ h)), by rw [r.length]; exact hi⟩
  yld := fun i G2 H2 x H' s t hi ⟨e, q⟩ => by
    subst e
    obtain ⟨d, h1, h2⟩ := r.of_at (q xs (SqT.of (t _ _ (s _ _ h))))
    exact ⟨G2, d, Ext.refl, t, h1, h2.up s⟩
def rngD (lo : Int) (n : Nat) : List PyData := (List.range n).map fun i => .int (lo + (i : Nat))
theorem rngD_len (lo : Int) (n : Nat) : (rngD lo n).length = n := by unfold rngD; simp
theorem src_rng {G : Hp} {lo : Int} {n : Nat} : Src G (Itr lo n) (rngD lo n) where
  go := fun i G2 H2 s t hi => by rw [rngD_len] at hi; exact hi
  stop := fun i G2 H2 s t hi => by rw [rngD_len] at hi; exact hi
  yld := fun i G2 H2 x H' s t hi ⟨e, q⟩ => by
    subst e q
    rw [rngD_len] at hi
    exact ⟨G2, .int (lo + i), Ext.refl, t, by unfold rngD; simp [hi], .int _⟩
def signsD (z : Str) : List PyData := z.cps.toList.map fun c => .str ⟨#[c]⟩
theorem src_str {G : Hp} {z : Str} : Src G (Its z) (signsD z) where
  go := fun i G2 H2 s t hi => by
    unfold signsD at hi
    show i < z.cps.size
    simpa using hi
  stop := fun i G2 H2 s t hi => by
    unfold signsD at hi
    show z.cps.size ≤ i
    simpa using hi
  yld := fun i G2 H2 x H' s t hi ⟨e, c, q1, q2⟩ => by
    subst e q2
    exact ⟨G2, .str ⟨#[c]⟩, Ext.refl, t, by unfold signsD; simp [q1], .str _⟩
def enumD (ds : List PyData) : List PyData := (List.range ds.length).map fun i => .tuple [.int (i : Nat), ds.getD i .none]
theorem src_enum {K : PySem.W.Frag} {G : Hp} {a : Addr} {xs : List V} {ds : List PyData} (h : G a = some (.lst xs)) (r : RpAll G xs ds) : Src G (Ite K a) (enumD ds) where
  go := fun i G2 H2 s t hi => by
    have hi : i < xs.length := by unfold enumD at hi; rw [r.length]; simpa using hi
    exact ⟨xs, xs[i], SqL.of (t _ _ (s _ _ h)), by simp [hi]⟩
  stop := fun i G2 H2 s t hi => ⟨xs, SqL.of (t _ _ (s _ _ h)), by unfold enumD at hi; rw [r.length]; simpa using hi⟩
  yld := fun i G2 H2 v H' s t hi ⟨T, x, e1, hT, e2, q⟩ => by
    subst e1 e2
    have hi : i < ds.length := by unfold enumD at hi; simpa using hi
    obtain ⟨d, h1, h2⟩ := r.of_at (q xs (SqL.of (t _ _ (s _ _ h))))
    have en := Ext.new (o := .tup [.int (i : Nat), x]) t hT
    refine ⟨_, .tuple [.int (i : Nat), d], en, same_new t, ?_, .tup upd_same (.cons (.int _) (.cons ((h2.up s).up en.g) .nil))⟩
    unfold enumD
    simp [hi]
    exact (List.getElem?_eq_some_iff.mp h1).2
theorem src_rev {K : PySem.W.Frag} {G : Hp} {a : Addr} {xs : List V} {ds : List PyData} (h : G a = some (.lst xs)) (r : RpAll G xs ds) : Src G (Itv K a xs.length) ds.reverse where
  go := fun i G2 H2 s t hi => by
    rw [List.length_reverse, ← r.length] at hi
    exact ⟨hi, xs, xs[xs.length - 1 - i]'(by omega), SqL.of (t _ _ (s _ _ h)), by rw [List.getElem?_eq_getElem]⟩
  stop := fun i G2 H2 s t hi => by rw [List.length_reverse, ← r.length] at hi; exact hi
  yld := fun i G2 H2 x H' s t hi ⟨e, q⟩ => by
    subst e
    rw [List.length_reverse] at hi
    obtain ⟨d, h1, h2⟩ := r.of_at (q xs (SqL.of (t _ _ (s _ _ h))))
    refine ⟨G2, d, Ext.refl, t, ?_, h2.up s⟩
    rw [List.getElem?_reverse hi, ← r.length]
    exact h1
def zipD : List PyData → List PyData → List PyData
  | x :: xs, y :: ys => .tuple [x, y] :: zipD xs ys
  | _, _ => []
theorem zipD_at : ∀ {xs ys : List PyData} {i : Nat} {x y : PyData}, xs[i]? = some x → ys[i]? = some y → (zipD xs ys)[i]? = some (.tuple [x, y])
  | [], _, _, _, _, h, _ => by simp at h
  | _ :: _, [], _, _, _, _, h => by simp at h
  | a :: xs, b :: ys, 0, x, y, h1, h2 => by simp at h1 h2; subst h1 h2; rfl
  | a :: xs, b :: ys, i + 1, x, y, h1, h2 => by
    have := zipD_at (xs := xs) (ys := ys) (i := i) (x := x) (y := y) (by simpa using h1) (by simpa using h2)
    simpa [zipD] using this
theorem zipD_len : ∀ xs ys : List PyData, (zipD xs ys).length = min xs.length ys.length
  | [], _ => by simp [zipD]
  | _ :: _, [] => by simp [zipD]
  | a :: xs, b :: ys => by simp [zipD, zipD_len xs ys]
theorem src_zip {K : PySem.W.Frag} {G : Hp} {a b : Addr} {xs ys : List V} {ds es : List PyData} (h : G a = some (.lst xs)) (r : RpAll G xs ds) (h' : G b = some (.lst ys)) (r' : RpAll G ys es) : Src G (Itz K a b) (zipD ds es) where
  go := fun i G2 H2 s t hi => by
    rw [zipD_len] at hi
    have h1 : i < xs.length := by rw [r.length]; omega
    have h2 : i < ys.length := by rw [r'.length]; omega
    exact ⟨xs, ys, xs[i], ys[i], SqL.of (t _ _ (s _ _ h)), SqL.of (t _ _ (s _ _ h')), by simp [h1], by simp [h2]⟩
  stop := fun i G2 H2 s t hi => ⟨xs, ys, SqL.of (t _ _ (s _ _ h)), SqL.of (t _ _ (s _ _ h')), by rw [zipD_len] at hi; rw [r.length, r'.length]; omega⟩
  yld := fun i G2 H2 v H' s t hi ⟨T, x, y, e1, hT, e2, q1, q2⟩ => by
    subst e1 e2
    obtain ⟨d, h1, h2⟩ := r.of_at (q1 xs (SqL.of (t _ _ (s _ _ h))))
    obtain ⟨d', h1', h2'⟩ := r'.of_at (q2 ys (SqL.of (t _ _ (s _ _ h'))))
    have en := Ext.new (o := .tup [x, y]) t hT
    exact ⟨_, .tuple [d, d'], en, same_new t, zipD_at h1 h1', .tup upd_same (.cons ((h2.up s).up en.g) (.cons ((h2'.up s).up en.g) .nil))⟩

abbrev DI := List En → (List PyData → Prop) → (Er → Prop) → Prop
def liftI (K : PySem.W.Frag) (W : WX) (di : DI) : TI := fun σ H R => ∃ (P : Pt) (Rd : List PyData → Prop) (Xn : Er → Prop), P.ok H σ ∧ di P.E Rd Xn ∧
  (∀ G' H' J items, Ext P.bx P.G H G' H' → (P.go G').ok H' σ → Src G' J items → Rd items → R J H') ∧ ErTo K W P σ Xn
abbrev QI (X : Cx) (W : WX) (tg iter : Expr) (di : DI) : Prop := PI X tg iter (liftI X.K W di)
/-- a list, a tuple, a text -/
def seqD : PyData → Option (List PyData)
  | .list ds => some ds
  | .tuple ds => some ds
  | .str z => some (signsD z)
  | _ => none
def iSeqD (de : DE) : DI := fun E R Xn => de E (fun d => ∃ ds, seqD d = some ds ∧ R ds) Xn
def iRngD (da : DE) : DI := fun E R Xn => da E (fun d => ∃ j : Int, d = .int j ∧ -(2 ^ 62) ≤ j ∧ j < 2 ^ 62 ∧ R (rngD 0 j.toNat)) Xn
def iEnumD (da : DE) : DI := fun E R Xn => da E (fun d => ∃ ds, d = .list ds ∧ R (enumD ds)) Xn
def iRevD (da : DE) : DI := fun E R Xn => da E (fun d => ∃ ds, d = .list ds ∧ R ds.reverse) Xn
def iZipD (da db : DE) : DI := fun E R Xn => da E (fun d => db E (fun d' => ∃ ds es, d = .list ds ∧ d' = .list es ∧ R (zipD ds es)) Xn) Xn
def iSq (K : PySem.W.Frag) (tl : TE) : TI := fun σ H R => tl σ H fun x H1 => (∃ a, x = .ref a ∧ (∃ xs, SqL K H1 a xs) ∧ R (Itl K a) H1) ∨ (∃ a, x = .ref a ∧ (∃ xs, SqT K H1 a xs) ∧ R (Itt K a) H1) ∨ ∃ z, x = .str z ∧ R (Its z) H1
section
variable {X : Cx} {W : WX} {tg e e2 : Expr} {es : List Expr} {pos p : Pos} {de db : DE}
theorem pi_sq {tl : TE} (hl : PE X e tl) : PI X tg e (iSq X.K tl) := by
  refine ⟨fun pins s σ H R I h => ?_⟩
  refine thn (hl.run pins s σ H _ I h) fun v s1 ⟨x, H1, I1, r1, q1⟩ => ?_
  rcases q1 with ⟨a, e, ⟨xs, hq⟩, q⟩ | ⟨a, e, ⟨xs, hq⟩, q⟩ | ⟨z, ex, q⟩
  · subst e
    cases r1
    obtain ⟨its, rv, p, hz⟩ := I1.list hq
    refine wpAny_pyIter_list p.isList ?_
    refine ⟨s1.heap.objs.size, [s1.heap.objs.size], _, _, H1, rfl, I1.kept (t' := s1.toks) fun b o e => Heap.get?_push_of_some _ e, turn_list a _, ⟨_, Heap.get?_push_size _ rfl, rfl, rfl⟩, fun b hb => ?_, q⟩
    have e : b = s1.heap.objs.size := by simpa using hb
    subst e
    exact I1.fpOk (Nat.le_refl _) (I1.hok.fresh (Nat.le_refl _))
  · subst e
    cases r1
    obtain ⟨its, rv, p, hz⟩ := I1.tuple hq
    refine wpAny_pyIter_tuple (show s1.heap.IsTuple a its.toArray from p) ?_
    refine ⟨s1.heap.objs.size, [s1.heap.objs.size], _, _, H1, rfl, I1.kept (t' := s1.toks) fun b o e => Heap.get?_push_of_some _ e, turn_tuple a _, ⟨_, Heap.get?_push_size _ rfl, rfl, rfl⟩, fun b hb => ?_, q⟩
    have e : b = s1.heap.objs.size := by simpa using hb
    subst e
    exact I1.fpOk (Nat.le_refl _) (I1.hok.fresh (Nat.le_refl _))
  · subst ex
    obtain ⟨t, rfl⟩ := r1
    cases ha : z.cps.all (· < 128)
    · exact wpAny_pyIter_wide ha (pi_one (tk := s1.toks) I1 _ (turn_str _ z t "str_iterator" (.inr rfl)) ⟨_, Heap.get?_push_size _ rfl, rfl, rfl⟩ q)
    · exact wpAny_pyIter_ascii ha (pi_one (tk := s1.toks) I1 _ (turn_str _ z t "str_ascii_iterator" (.inl rfl)) ⟨_, Heap.get?_push_size _ rfl, rfl, rfl⟩ q)
theorem pi_imp {iter : Expr} {t t' : TI} (h : PI X tg iter t) (i : ∀ σ H Q, t' σ H Q → t σ H Q) : PI X tg iter t' := ⟨fun pins s σ H Q I q => h.run pins s σ H Q I (i σ H Q q)⟩
theorem i_seq (h : QE X W e de) : QI X W tg e (iSeqD de) := pi_imp (pi_sq h) fun σ H Q ⟨P, R, Xn, S, h, k, kx⟩ =>
  ⟨P, _, Xn, S, h, fun v G1 H1 d e1 S1 r1 ⟨ds, ed, hR⟩ => (by
    cases r1 with
    | @lst a xs ds h a1 => cases ed; exact .inl ⟨a, rfl, ⟨xs, SqL.of (S1.w.s _ _ h)⟩, k G1 H1 _ _ e1 S1 (src_list h a1) hR⟩
    | @tup a xs ds h a1 => cases ed; exact .inr (.inl ⟨a, rfl, ⟨xs, SqT.of (S1.w.s _ _ h)⟩, k G1 H1 _ _ e1 S1 (src_tup h a1) hR⟩)
    | str z => cases ed; exact .inr (.inr ⟨z, rfl, k G1 H1 _ _ e1 S1 src_str hR⟩)
    | _ => cases ed), kx⟩
theorem one_arg {K : PySem.W.Frag} {de : DE} {σ : L2.St} {H : Hp} {P : Pt} {Q : V → Hp → Prop} {R : PyData → Prop} {Xn : Er → Prop} (S : P.ok H σ) (h : de P.E R Xn) (kx : ErTo K W P σ Xn)
    (k : ∀ v G1 H1 d, Ext P.bx P.G H G1 H1 → (P.go G1).ok H1 σ → Rp G1 v d → R d → Q v H1) : liftE K W de σ H Q := ⟨P, R, Xn, S, h, k, kx⟩
theorem i_rng (hm : X.mg "range" = none) (h : QE X W e de) (hg : Gl X "range" := by rfl) (hs : starEach [e] X.env = [(false, eval e X.env)] := by rfl) : QI X W tg (.Call (.Name "range" p) [e] [] pos) (iRngD de) :=
  pi_imp (pi_range1 hg hm (pa_cons h pa_nil (by rw [hs]; rfl)) hs) fun σ H Q ⟨P, R, Xn, S, h, k, kx⟩ =>
  ⟨P, _, Xn, S, h, fun v G1 H1 d e1 S1 r1 ⟨j, ed, h1, h2, hR⟩ => by
    subst ed
    cases r1
    exact ⟨j, rfl, h1, h2, k G1 H1 _ _ e1 S1 src_rng hR⟩, kx⟩
theorem i_enum {elts : List Expr} {kk : Nat} {tpos : Pos} (hm : X.mg "enumerate" = none) (h : QE X W e de) (hg : Gl X "enumerate" := by rfl) (hs : starEach [e] X.env = [(false, eval e X.env)] := by rfl) : QI X W (.Tuple elts kk tpos) (.Call (.Name "enumerate" p) [e] [] pos) (iEnumD de) :=
  pi_imp (pi_enum hg hm (pa_cons h pa_nil (by rw [hs]; rfl)) hs) fun σ H Q ⟨P, R, Xn, S, h, k, kx⟩ =>
  ⟨P, _, Xn, S, h, fun v G1 H1 d e1 S1 r1 ⟨ds, ed, hR⟩ => by
    subst ed
    cases r1 with
    | @lst a xs ds h a1 => exact ⟨a, xs, rfl, SqL.of (S1.w.s _ _ h), k G1 H1 _ _ e1 S1 (src_enum h a1) hR⟩, kx⟩
theorem i_rev (hm : X.mg "reversed" = none) (h : QE X W e de) (hg : Gl X "reversed" := by rfl) (hs : starEach [e] X.env = [(false, eval e X.env)] := by rfl) : QI X W tg (.Call (.Name "reversed" p) [e] [] pos) (iRevD de) :=
  pi_imp (pi_reversed hg hm (pa_cons h pa_nil (by rw [hs]; rfl)) hs) fun σ H Q ⟨P, R, Xn, S, h, k, kx⟩ =>
  ⟨P, _, Xn, S, h, fun v G1 H1 d e1 S1 r1 ⟨ds, ed, hR⟩ => by
    subst ed
    cases r1 with
    | @lst a xs ds h a1 => exact ⟨a, xs, rfl, SqL.of (S1.w.s _ _ h), k G1 H1 _ _ e1 S1 (src_rev h a1) hR⟩, kx⟩
theorem i_zip {elts : List Expr} {kk : Nat} {tpos : Pos} (hm : X.mg "zip" = none) (h : QE X W e de) (h2 : QE X W e2 db) (hg : Gl X "zip" := by rfl) (hs : starEach [e, e2] X.env = (false, eval e X.env) :: starEach [e2] X.env := by rfl) (hs2 : starEach [e2] X.env = (false, eval e2 X.env) :: starEach [] X.env := by rfl) (hpl : (backTo pos (starEach [e2] X.env)).any (·.1) = false := by rfl) :
    QI X W (.Tuple elts kk tpos) (.Call (.Name "zip" p) [e, e2] [] pos) (iZipD de db) :=
  pi_imp (pi_zip hg hm (pa_cons h (pa_cons h2 pa_nil hs2) hs) hs hpl) fun σ H Q ⟨P, R, Xn, S, h, k, kx⟩ =>
  ⟨P, _, Xn, S, h, fun v G1 H1 d e1 S1 r1 h1 => ⟨P.go G1, _, Xn, S1, h1, fun v2 G2 H2 d2 e2 S2 r2 ⟨ds, es, ed, ed2, hR⟩ => by
    subst ed ed2
    have r1 := r1.up e2.g
    cases r1 with
    | @lst a xs ds h a1 =>
      cases r2 with
      | @lst b ys es h' a1' => exact ⟨a, b, xs, ys, rfl, SqL.of (S2.w.s _ _ h), SqL.of (S2.w.s _ _ h'), k G2 H2 _ _ (e1.trans e2) S2 (src_zip h a1 h' a1') hR⟩, kx⟩, kx⟩
end

/-! ### targets: a name, a tuple of names -/
inductive Tgt where
  | nm (i : Nat)
  | tp (is : List Nat)
def Tgt.is : Tgt → List Nat
  | .nm i => [i]
  | .tp is => is
def gNs : List Nat → TGs
  | [] => gNil
  | i :: is => gCons (gName i) (gNs is)
def gT (K : PySem.W.Frag) : Tgt → TG
  | .nm i => gName i
  | .tp is => gTup K is.length (gNs is)
def setAll : List Nat → List PyData → List En → List En
  | i :: is, d :: ds, E => setAll is ds (E.set i (.dat d))
  | _, _, E => E
def tgSet : Tgt → PyData → List En → Option (List En)
  | .nm i, d, E => some (E.set i (.dat d))
  | .tp is, .tuple ds, E => if is.length = ds.length then some (setAll is ds E) else none
  | .tp _, _, _ => none
theorem wipe_in {σ : L2.St} {j : Nat} : ∀ {vs : List Nat}, j ∈ vs → j < σ.length → (wipe σ vs)[j]? = some none
  | [], h, _ => by cases h
  | v :: vs, h, hl => by
    show ((wipe σ vs).set v none)[j]? = some none
    by_cases e : v = j
    · subst e
      rw [List.getElem?_set_self (by rw [wipe_length]; exact hl)]
    · rw [List.getElem?_set_ne e]
      exact wipe_in ((List.mem_cons.mp h).resolve_left (Ne.symm e)) hl
theorem wipe_set {σ : L2.St} {i : Nat} {y : Option V} {vs : List Nat} (h : i ∈ vs) : wipe (σ.set i y) vs = wipe σ vs := by
  apply List.ext_getElem?
  intro j
  by_cases hj : j ∈ vs
  · by_cases hl : j < σ.length
    · rw [wipe_in hj (by simpa using hl), wipe_in hj hl]
    · rw [List.getElem?_eq_none (by rw [wipe_length]; simpa using hl), List.getElem?_eq_none (by rw [wipe_length]; simpa using hl)]
  · rw [wipe_out hj, wipe_out hj, List.getElem?_set_ne fun e => hj (by rw [← e]; exact h)]
theorem wipe_wipe {σ : L2.St} {vs : List Nat} : wipe (wipe σ vs) vs = wipe σ vs := by
  apply List.ext_getElem?
  intro j
  by_cases hj : j ∈ vs
  · by_cases hl : j < σ.length
    · rw [wipe_in hj (by rw [wipe_length]; exact hl), wipe_in hj hl]
    · rw [List.getElem?_eq_none (by rw [wipe_length, wipe_length]; omega), List.getElem?_eq_none (by rw [wipe_length]; omega)]
  · rw [wipe_out hj]
section
variable {bx : Option Bx} {G0 H0 G H : Hp} {K : PySem.W.Frag}
theorem ns_ok : ∀ {is : List Nat} {xs : List V} {ds : List PyData} {σ : L2.St} {E : List En}, SR bx G0 H0 G H σ E → RpAll G xs ds → is.length = ds.length →
    ∃ σ', SR bx G0 H0 G H σ' (setAll is ds E) ∧ (∀ Q : L2.St → Hp → Prop, Q σ' H → gNs is xs σ H Q) ∧ ∀ vs, (∀ i ∈ is, i ∈ vs) → wipe σ' vs = wipe σ vs
  | [], _, _, σ, E, s, .nil, _ => ⟨σ, s, fun Q q => ⟨rfl, q⟩, fun _ _ => rfl⟩
  | _ :: _, [], _, _, _, _, .nil, hl => by simp at hl
  | i :: is, x :: xs, d :: ds, σ, E, s, .cons r t, hl => by
    obtain ⟨σ', s', q, wz⟩ := ns_ok (is := is) (s.setDat (i := i) r) t (by simpa using hl)
    refine ⟨σ', s', fun Q h => ⟨x, xs, rfl, q Q h⟩, fun vs hv => ?_⟩
    rw [wz vs fun j hj => hv j (List.mem_cons_of_mem _ hj)]
    exact wipe_set (hv i List.mem_cons_self)
theorem tg_ok {t : Tgt} {v : V} {x : PyData} {σ : L2.St} {E E' : List En} (s : SR bx G0 H0 G H σ E) (r : Rp G v x) (h : tgSet t x E = some E') :
    ∃ σ', SR bx G0 H0 G H σ' E' ∧ (∀ Q : L2.St → Hp → Prop, Q σ' H → gT K t v σ H Q) ∧ ∀ vs, (∀ i ∈ t.is, i ∈ vs) → wipe σ' vs = wipe σ vs := by
  cases t with
  | nm i =>
    cases h
    exact ⟨_, s.setDat r, fun Q q => q, fun vs hv => wipe_set (hv i List.mem_cons_self)⟩
  | tp is =>
    cases r with
    | @tup a xs ds h1 a1 =>
      have h : (if is.length = ds.length then some (setAll is ds E) else none) = some E' := h
      by_cases hl : is.length = ds.length
      · rw [if_pos hl] at h
        cases h
        obtain ⟨σ', s', q, wz⟩ := ns_ok (is := is) s a1 hl
        exact ⟨σ', s', fun Q h => ⟨a, xs, rfl, SqT.of (s.w.s _ _ h1), by rw [a1.length, hl], q Q h⟩, wz⟩
      · rw [if_neg hl] at h; cases h
    | _ => cases h
end
section
variable {X : Cx} {pos : Pos}
theorem g_nm {x : Str} (i : Nat) (h : PG X (.Name x pos) (gName i)) : PG X (.Name x pos) (gT X.K (.nm i)) := h
theorem g_tp {es : List Expr} {k : Nat} {is : List Nat} (hc : X.calm = true) (h : PGs X es (gNs is)) (hn : (assignEach es X.env).length = is.length := by rfl) (hst : (assignEach es X.env).findIdx? (·.1) = none := by rfl) : PG X (.Tuple es k pos) (gT X.K (.tp is)) := pg_tup hc h hn hst
theorem gs_nil : PGs X [] (gNs []) := pgs_nil
theorem gs_cons {e : Expr} {es : List Expr} {i : Nat} {is : List Nat} (h1 : PG X e (gName i)) (h2 : PGs X es (gNs is)) (hs : (assignEach (e :: es) X.env).map (·.2) = assign e X.env :: (assignEach es X.env).map (·.2) := by rfl) : PGs X (e :: es) (gNs (i :: is)) := pgs_cons h1 h2 hs
end

/-! ### comprehensions -/
def wipeE : List En → List Nat → List En
  | E, [] => E
  | E, v :: vs => (wipeE E vs).set v .un
theorem SR.wipes {bx : Option Bx} {G0 H0 G H : Hp} {σ : L2.St} {E : List En} (s : SR bx G0 H0 G H σ E) : ∀ vs : List Nat, SR bx G0 H0 G H (L2.wipe σ vs) (wipeE E vs)
  | [] => s
  | v :: vs => (s.wipes vs).wipe
/-- what is made of the items, one after another -/
def lcGo (tg : Tgt) (dt : DT) (de : DE) (E : List En) (R : List PyData → Prop) : List PyData → List PyData → Prop
  | [], acc => R acc
  | x :: r, acc => ∃ E', tgSet tg x E = some E' ∧ dt E' (fun b => (b = true → de E' (fun y => acc.length < sizeLine ∧ lcGo tg dt de E R r (acc ++ [y])) (fun _ => False)) ∧ (b = false → lcGo tg dt de E R r acc)) (fun _ => False)
def dLc (di : DI) (tg : Tgt) (dt : DT) (de : DE) (vs : List Nat) : DF := fun E R Xn => di E (fun items => lcGo tg dt de (wipeE E vs) R items []) Xn
def dYes : DT := fun _ R _ => R true
abbrev WF : WX := fun _ _ _ _ => False
section
variable {X : Cx} {W : WX}
theorem lift_lc {K : PySem.W.Frag} {di : DI} {tg : Tgt} {dt : DT} {de : DE} {vs : List Nat} (hv : ∀ i ∈ tg.is, i ∈ vs) {σ : L2.St} {H : Hp} {Q : VK} (h : liftF K W (dLc di tg dt de vs) σ H Q) :
    tLc (liftI K W di) (gT K tg) (liftT K WF dt) (liftE K WF de) vs σ H Q := by
  obtain ⟨P, R, Xn, S, h, k, kx⟩ := h
  refine ⟨P, _, Xn, S, h, fun G1 H1 J items e1 S1 src h1 => ?_, kx⟩
  intro D hD
  -- the invariant: what is made so far, what is left
  refine ⟨fun i m H2 => ∃ (G2 : Hp) (acc : List PyData) (ys : List V), m = items.length - i ∧ i ≤ items.length ∧ Ext P.bx G1 H1 G2 H2 ∧ (P.go G2).ok H2 σ ∧ G2 D = none ∧ H2 D = some (.lst ys) ∧ RpAll G2 ys acc ∧ lcGo tg dt de (wipeE P.E vs) R (items.drop i) acc, ?_, ?_⟩
  · have en : Ext none G1 H1 G1 (upd H1 D (.lst [])) := Ext.own hD
    exact ⟨items.length, G1, [], [], rfl, Nat.zero_le _, en.any, S1.pure en (same_own S1.w.s hD), S1.w.s.free hD, upd_same, .nil, h1⟩
  · rintro i m H2 ⟨G2, acc, ys, rfl, hi, e2, S2, gD, hD2, ra, go⟩
    by_cases hlt : i < items.length
    · refine .inr ⟨src.go i G2 H2 e2.g S2.w.s hlt, fun H3 => ∃ (G3 : Hp) (acc : List PyData) (ys : List V), Ext P.bx G1 H1 G3 H3 ∧ (P.go G3).ok H3 σ ∧ G3 D = none ∧ H3 D = some (.lst ys) ∧ RpAll G3 ys acc ∧ lcGo tg dt de (wipeE P.E vs) R (items.drop (i + 1)) acc, fun H3 ⟨G3, acc3, ys3, q1, q2, q3, q4, q5, q6⟩ => ⟨items.length - (i + 1), by omega, G3, acc3, ys3, rfl, hlt, q1, q2, q3, q4, q5, q6⟩, fun x H3 hy => ?_⟩
      obtain ⟨G3, d, e3, s3, hd, r3⟩ := src.yld i G2 H2 x H3 e2.g S2.w.s hlt hy
      have S3 : SR P.bx P.G0 P.H0 G3 H3 σ P.E := S2.pure e3 s3
      have gD3 : G3 D = none := by
        cases q : G3 D with
        | none => rfl
        | some u =>
          rcases e3.n D u q with z | z
          · rw [gD] at z; cases z
          · rw [hD2] at z; cases z
      have hD3 := e3.same D _ hD2
      rw [show items.drop i = d :: items.drop (i + 1) by rw [List.drop_eq_getElem_cons hlt]; congr 1; rw [List.getElem?_eq_getElem hlt] at hd; exact Option.some.inj hd] at go
      obtain ⟨E', hE, go⟩ := go
      obtain ⟨σ', S4, gq, wz⟩ := tg_ok (K := K) (S3.wipes vs) r3 hE
      refine gq _ ⟨(wz vs hv).trans wipe_wipe, ?_⟩
      refine ⟨⟨P.bx, P.G0, P.H0, G3, E'⟩, _, _, S4, go, fun b G5 H5 e5 S5 ⟨h5, h6⟩ => ?_, fun _ _ _ _ _ _ _ f => f.elim⟩
      have gD5 : ∀ {G6 H6 : Hp}, Ext P.bx G3 H3 G6 H6 → Wo P.bx G6 H6 → G6 D = none ∧ H6 D = some (.lst ys) := fun {G6 H6} e6 w6 => by
        have off : Off P.bx D := fun z hz q => by
          obtain ⟨_, _, _, _, _, _, y, _⟩ := S1.w.b z hz
          rw [q, hD] at y; cases y
        refine ⟨?_, e6.h D _ off hD3⟩
        cases q : G6 D with
        | none => rfl
        | some u =>
          rcases e6.n D u q with z | z
          · rw [gD3] at z; cases z
          · rw [hD3] at z; cases z
      have e135 : ∀ {G6 H6 : Hp}, Ext P.bx G3 H3 G6 H6 → Ext P.bx G1 H1 G6 H6 := fun e6 => e2.trans (e3.any.trans e6)
      cases b with
      | false =>
        obtain ⟨g1, g2⟩ := gD5 e5 S5.w
        exact ⟨G5, acc, ys, e135 e5, S3.ext e5 S5.w, g1, g2, ra.up (e3.g.trans e5.g), h6 rfl⟩
      | true =>
        refine ⟨⟨P.bx, P.G0, P.H0, G5, E'⟩, _, _, S5, h5 rfl, fun y G6 H6 d6 e6 S6 r6 ⟨hz, go⟩ => ?_, fun _ _ _ _ _ _ _ f => f.elim⟩
        obtain ⟨g1, g2⟩ := gD5 (e5.trans e6) S6.w
        have ra6 : RpAll G6 ys acc := ra.up (e3.g.trans (e5.g.trans e6.g))
        refine ⟨ys, g2, by rw [ra6.length]; exact hz, G6, acc ++ [d6], ys ++ [y], ?_, ?_, g1, upd_same, ra6.app (.cons r6 .nil), go⟩
        · have e := e135 (e5.trans e6)
          exact ⟨e.g, fun a o n q => by rw [upd_ne (ne_of_none q hD)]; exact e.h a o n q, e.n, fun a o q => by
            rw [upd_ne (ne_of_none q hD)]; exact e.al a o q⟩
        · have S7 : SR P.bx P.G0 P.H0 G6 H6 σ P.E := S3.ext (e5.trans e6) S6.w
          refine ⟨S7.len, ⟨S7.x.g, fun a o n q => ?_, S7.x.n, fun a o q => ?_⟩, ⟨fun a o q => ?_, fun z hz => ?_⟩, fun j en q => ?_, S7.d⟩
          · rw [upd_ne (ne_of_none q (S1.x.none_of hD))]; exact S7.x.h a o n q
          · rw [upd_ne (ne_of_none q (S1.x.none_of hD))]; exact S7.x.al a o q
          · rw [upd_ne (ne_of_none q g1)]; exact S7.w.s a o q
          · obtain ⟨b1, b2⟩ := S7.w.b z hz
            refine ⟨b1, b2.up (Same.refl _) (upd_ne fun q => ?_)⟩
            obtain ⟨_, _, _, _, _, _, y, _⟩ := S1.w.b z hz
            rw [q, hD] at y; cases y
          · have z7 := S7.e j en q
            cases en with
            | un => trivial
            | dat d => exact z7
            | own ds =>
              obtain ⟨p, xs, z1, z2, z3, z4, z5, z6⟩ := z7
              refine ⟨p, xs, z1, z2, z3, z4, ?_, z6⟩
              obtain ⟨p1, xs1, y1, y2, y3, y4, y5, y6⟩ := S1.e j _ q
              rw [z1] at y1
              cases y1
              rw [upd_ne (ne_of_none y5 hD)]
              exact z5
            | box => exact z7
            | raw u => exact z7
    · have ei : i = items.length := by omega
      subst ei
      rw [List.drop_length] at go
      exact .inl ⟨src.stop _ G2 H2 e2.g S2.w.s (Nat.le_refl _), k D ys G2 H2 acc (e1.trans e2) S2 (e1.none_of hD) gD hD2 ra go⟩
theorem f_lc {elt tgE iter : Expr} {ifs : List Expr} {scope : Scope} {own : List (Str × Nat)} {pos : Pos} {di : DI} {tg : Tgt} {dt : DT} {de : DE} (hc : X.calm = true) (hN : X.N.Nodup) (hi : QI X W tgE iter di) (ok : blkC X.N X.env.scope scope own = true) (hv : ∀ i ∈ tg.is, i ∈ own.map (·.2))
    (hg : ∀ (s : Shared) (H : Hp) (C : Addr) (cl : List (Str × Addr)) (fp : List Addr), PG (X.blk s H scope (compEnvC scope cl C X.env) fp) tgE (gT X.K tg)) (ht : ∀ (s : Shared) (H : Hp) (C : Addr) (cl : List (Str × Addr)) (fp : List Addr), PTs (X.blk s H scope (compEnvC scope cl C X.env) fp) ifs (liftT X.K WF dt))
    (he : ∀ (s : Shared) (H : Hp) (C : Addr) (cl : List (Str × Addr)) (fp : List Addr), QE (X.blk s H scope (compEnvC scope cl C X.env) fp) WF elt de) (hs : ∀ x, foldedSetIterable iter X.env x = pure x := by intro _; rfl) :
    QF X W (.ListComp elt [⟨tgE, iter, ifs, 0⟩] scope pos) (dLc di tg dt de (own.map (·.2))) := pe_imp (pe_lc hc hN hi (blkOk_by ok) hg ht he hs) fun _ _ _ => lift_lc hv
theorem ts_nil : PTs X [] (liftT X.K W dYes) := ⟨fun pins s σ H Q I ⟨P, R, Xn, S, h, k, kx⟩ => pts_nil.run pins s σ H Q I (k true P.G H Ext.refl S h)⟩
theorem ts_one {c : Expr} {dt : DT} (h : QT X W c dt) : PTs X [c] (liftT X.K W dt) := pts_one h
end
end Wx

namespace Wx
open PySem PySem.Spec PyProof.Rows L2

theorem Ext.up0 {bx : Option Bx} {G0 H0 G1 H1 G H : Hp} (e : Ext bx G0 H0 G1 H1) (f : Ext bx G1 H0 G H) : Ext bx G0 H0 G H := ⟨e.g.trans f.g, f.h, fun a o q => by
  rcases f.n a o q with z | z
  · exact e.n a o z
  · exact .inr z, f.al⟩
theorem Ext.re0 {bx : Option Bx} {G0 H0 G1 G H : Hp} (e : Ext bx G0 H0 G H) (g : Same G0 G1) (g' : Same G1 G) : Ext bx G1 H0 G H := ⟨g', e.h, fun a o q => by
  rcases e.n a o q with z | z
  · exact .inl (g a o z)
  · exact .inr z, e.al⟩
theorem SR.up0 {bx : Option Bx} {G0 H0 G1 H1 G H : Hp} {σ : L2.St} {E : List En} (s : SR bx G1 H0 G H σ E) (e : Ext bx G0 H0 G1 H1) : SR bx G0 H0 G H σ E := ⟨s.len, e.up0 s.x, s.w, s.e, s.d⟩
theorem SR.re0 {bx : Option Bx} {G0 H0 G1 G H : Hp} {σ : L2.St} {E : List En} (s : SR bx G0 H0 G H σ E) (g : Same G0 G1) (g' : Same G1 G) : SR bx G1 H0 G H σ E := ⟨s.len, s.x.re0 g g', s.w, s.e, s.d⟩
theorem SR.off {bx : Option Bx} {G0 H0 G H : Hp} {σ : L2.St} {E : List En} (s : SR bx G0 H0 G H σ E) {p : Addr} (hp : H p = none) : Off bx p := fun z hz q => by
  obtain ⟨_, _, _, _, _, _, y, _⟩ := s.w.b z hz
  rw [q, hp] at y; cases y
/-- a new list that stands already is named -/
theorem SR.nameOwn {bx : Option Bx} {G0 H0 G H : Hp} {σ : L2.St} {E : List En} (s : SR bx G0 H0 G H σ E) {i : Nat} {p : Addr} {xs : List V} {ds : List PyData} (h0 : H0 p = none) (gp : G p = none) (hx : H p = some (.lst xs)) (m : RpAll G xs ds)
    (bp : Off bx p) (old : ∀ (j : Nat) (es : List PyData), E[j]? = some (En.own es) → σ[j]? = some (some (V.ref p)) → False) : SR bx G0 H0 G H (σ.set i (some (.ref p))) (E.set i (.own ds)) := by
  refine ⟨by simpa using s.len, s.x, s.w, fun j en q => ?_, fun j k ds1 es1 p1 hjk q1 q2 q3 q4 => ?_⟩
  · by_cases hj : i = j
    · subst hj
      have hl : i < E.length := by
        have := (List.getElem?_eq_some_iff.mp q).1
        simpa using this
      rw [List.getElem?_set_self hl] at q
      cases q
      exact ⟨p, xs, List.getElem?_set_self (by rw [s.len]; exact hl), h0, gp, bp, hx, m⟩
    · rw [List.getElem?_set_ne hj] at q
      have z := s.e j en q
      have eσ : (σ.set i (some (V.ref p)))[j]? = σ[j]? := List.getElem?_set_ne hj
      cases en with
      | un => trivial
      | dat d => obtain ⟨u, z1, z2⟩ := z; exact ⟨u, eσ.trans z1, z2⟩
      | own ds => obtain ⟨p, xs, z1, z2⟩ := z; exact ⟨p, xs, eσ.trans z1, z2⟩
      | box => obtain ⟨b, z1, z2⟩ := z; exact ⟨b, z1, eσ.trans z2⟩
      | raw u => exact eσ.trans z
  · have at_i : ∀ k, k = i → (σ.set i (some (V.ref p)))[k]? = some (some (V.ref p1)) → p1 = p := fun k hk z => by
      subst hk
      have hl : k < σ.length := by
        have := (List.getElem?_eq_some_iff.mp z).1
        simpa using this
      rw [List.getElem?_set_self hl] at z
      cases z
      rfl
    by_cases hj : j = i
    · have e1 := at_i j hj q3
      subst e1
      have hk : k ≠ i := fun z => hjk (hj.trans z.symm)
      rw [List.getElem?_set_ne (Ne.symm hk)] at q2 q4
      exact old k es1 q2 q4
    · by_cases hk : k = i
      · have e1 := at_i k hk q4
        subst e1
        rw [List.getElem?_set_ne (Ne.symm hj)] at q1 q3
        exact old j ds1 q1 q3
      · rw [List.getElem?_set_ne (Ne.symm hj)] at q1 q3
        rw [List.getElem?_set_ne (Ne.symm hk)] at q2 q4
        exact s.d j k ds1 es1 p1 hjk q1 q2 q3 q4

/-! ### statements over data -/
/-- what is wanted behind a statement: what follows, a value, a new list of one's own handed back, a break, a continue, an error -/
structure DEnds where
  nx : List En → Prop
  rt : PyData → Prop := fun _ => False
  ro : List PyData → Prop := fun _ => False
  bk : List En → Prop := fun _ => False
  ct : List En → Prop := fun _ => False
  ex : Er → List En → Prop := fun _ _ => False
abbrev DS := DEnds → List En → Prop
structure Link (K : PySem.W.Frag) (W : WX) (bx : Option Bx) (G0 H0 : Hp) (R : DEnds) (D : Ends) : Prop where
  nx : ∀ G H σ E, SR bx G0 H0 G H σ E → R.nx E → D.nx σ H
  rt : ∀ v G H d, Ext bx G0 H0 G H → Wo bx G H → Rp G v d → R.rt d → D.rt v H
  ro : ∀ p xs G H ds, Ext bx G0 H0 G H → Wo bx G H → H0 p = none → G p = none → H p = some (.lst xs) → RpAll G xs ds → R.ro ds → D.rt (.ref p) H
  bk : ∀ G H σ E, SR bx G0 H0 G H σ E → R.bk E → D.bk σ H
  ct : ∀ G H σ E, SR bx G0 H0 G H σ E → R.ct E → D.ct σ H
  ex : ∀ x cls dd G H σ E, SR bx G0 H0 G H σ E → ErOk K G H x cls dd → R.ex x E → W cls dd σ H
def liftS (K : PySem.W.Frag) (W : WX) (ds : DS) : TS := fun D σ H => ∃ (P : Pt) (R : DEnds), P.ok H σ ∧ ds R P.E ∧ Link K W P.bx P.G0 P.H0 R D
abbrev QS (X : Cx) (W : WX) (st : Stmt) (ds : DS) : Prop := PS X st (liftS X.K W ds)
abbrev QSs (X : Cx) (W : WX) (st : List Stmt) (ds : DS) : Prop := PSs X st (liftS X.K W ds)
theorem Link.err {K : PySem.W.Frag} {W : WX} {P : Pt} {R : DEnds} {D : Ends} (L : Link K W P.bx P.G0 P.H0 R D) {σ : L2.St} : ErTo K W P σ (fun x => R.ex x P.E) := fun x cls dd G' H' S er hx => L.ex x cls dd G' H' σ P.E S er hx
def dNext : DS := fun R E => R.nx E
def dSeq (a b : DS) : DS := fun R E => a { R with nx := b R } E
def dSet (i : Nat) (de : DE) : DS := fun R E => de E (fun d => R.nx (E.set i (.dat d))) (fun x => R.ex x E)
def dSetT (t : Tgt) (de : DE) : DS := fun R E => de E (fun d => ∃ E', tgSet t d E = some E' ∧ R.nx E') (fun x => R.ex x E)
def dSetO (i : Nat) (df : DF) : DS := fun R E => df E (fun ds => R.nx (E.set i (.own ds))) (fun x => R.ex x E)
def dDrop (de : DE) : DS := fun R E => de E (fun _ => R.nx E) (fun x => R.ex x E)
def dRet (de : DE) : DS := fun R E => de E R.rt (fun x => R.ex x E)
def dRetF (df : DF) : DS := fun R E => df E R.ro (fun x => R.ex x E)
def dRetN : DS := fun R _ => R.rt .none
/-- a list of one's own handed back: as such; frozen -/
def dRetO (i : Nat) : DS := fun R E => ∃ ds, E[i]? = some (.own ds) ∧ R.ro ds
def dRetL (i : Nat) : DS := fun R E => ∃ ds, E[i]? = some (.own ds) ∧ R.rt (.list ds)
def dIfS (t : DT) (a b : DS) : DS := fun R E => t E (fun c => (c = true → a R E) ∧ (c = false → b R E)) (fun x => R.ex x E)
def dBreak : DS := fun R E => R.bk E
def dCont : DS := fun R E => R.ct E
def forGo (t : Tgt) (body : DS) (R : DEnds) : List PyData → List En → Prop
  | [], E => R.nx E
  | x :: r, E => ∃ E', tgSet t x E = some E' ∧ body { R with nx := forGo t body R r, ct := forGo t body R r, bk := R.nx } E'
def dFor (di : DI) (t : Tgt) (body : DS) : DS := fun R E => di E (fun items => forGo t body R items E) (fun x => R.ex x E)
def dWhile (t : DT) (body : DS) : DS := fun R E => ∃ W : Nat → List En → Prop, (∃ m, W m E) ∧ ∀ m E, W m E → t E (fun c => (c = true → body { R with nx := fun E' => ∃ m', m' < m ∧ W m' E', ct := fun E' => ∃ m', m' < m ∧ W m' E', bk := R.nx } E) ∧ (c = false → R.nx E)) (fun x => R.ex x E)
/-- from here on a list of one's own is frozen -/
def dFrz (i : Nat) (ds : DS) : DS := fun R E => ∃ xs, E[i]? = some (.own xs) ∧ ds R (E.set i (.dat (.list xs)))
/-- found.append(e) -/
def dApp (i : Nat) (de : DE) : DS := fun R E => ∃ ds, E[i]? = some (.own ds) ∧ de E (fun d => ds.length < sizeLine ∧ R.nx (E.set i (.own (ds ++ [d])))) (fun x => R.ex x E)
/-- found[a] = e -/
def dPut (i : Nat) (di de : DE) : DS := fun R E => de E (fun d => ∃ ds, E[i]? = some (.own ds) ∧ di E (fun z => ∃ k j, z = .int k ∧ ixN ds.length k = some j ∧ R.nx (E.set i (.own (ds.set j d)))) (fun x => R.ex x E)) (fun x => R.ex x E)
/-- found.insert(a, e) -/
def dIns (i : Nat) (di de : DE) : DS := fun R E => ∃ ds, E[i]? = some (.own ds) ∧ di E (fun z => de E (fun d => ∃ k, z = .int k ∧ ds.length < sizeLine ∧ 0 ≤ k ∧ k < 2 ^ 63 ∧ R.nx (E.set i (.own (ds.take k.toNat ++ [d] ++ ds.drop k.toNat)))) (fun x => R.ex x E)) (fun x => R.ex x E)
/-- raise X('..') -/
def dRaise (n : Str) : DS := fun R E => R.ex (n, none) E
section
variable {X : Cx} {W : WX} {pos : Pos} {st : Stmt} {rest sts : List Stmt} {e : Expr} {de di dv : DE} {df : DF} {da db : DS} {dt : DT}
theorem ss_nil : QSs X W [] dNext := pss_imp pss_nil fun D σ H ⟨P, R, S, h, L⟩ => L.nx P.G H σ P.E S h
theorem ss_cons (h1 : QS X W st da) (h2 : QSs X W rest db) : QSs X W (st :: rest) (dSeq da db) := pss_imp (pss_cons h1 h2) fun D σ H ⟨P, R, S, h, L⟩ =>
  ⟨P, _, S, h, ⟨fun G H' σ' E S' h' => ⟨⟨P.bx, P.G0, P.H0, G, E⟩, R, S', h', L⟩, L.rt, L.ro, L.bk, L.ct, L.ex⟩⟩
theorem ss_one (h : QS X W st da) : QSs X W [st] da := pss_one h
theorem s_asg_of {tg : Expr} {i : Nat} {t : TS} (h : PS X st (tAsg (liftE X.K W de) (gName i))) : QS X W st (dSet i de) := ps_imp h fun D σ H ⟨P, R, S, h, L⟩ =>
  ⟨P, _, _, S, h, fun v G1 H1 d e1 S1 r1 h1 => L.nx G1 H1 _ _ (S1.setDat r1) h1, L.err⟩
theorem s_set {i : Nat} {x : Str} {pos' : Pos} (hN : X.N.Nodup) (hi : X.N[i]? = some x) (hx : Loc X.env.scope x) (he : QE X W e de) (hs : swapsWith e (some (.Name x pos')) pos.line X.env = pure false := by rfl) (hf : X.fn x = true ∨ X.env.scope.names.lookup x = some .local := by first | exact .inl rfl | exact .inr rfl | assumption) :
    QS X W (.Assign [.Name x pos'] e pos) (dSet i de) := ps_imp (ps_set hN hi hx he hs hf) fun D σ H ⟨P, R, S, h, L⟩ =>
  ⟨P, _, _, S, h, fun v G1 H1 d e1 S1 r1 h1 => L.nx G1 H1 _ _ (S1.setDat r1) h1, L.err⟩
theorem s_setO {i : Nat} {x : Str} {pos' : Pos} (hN : X.N.Nodup) (hi : X.N[i]? = some x) (hx : Loc X.env.scope x) (he : QF X W e df) (hs : swapsWith e (some (.Name x pos')) pos.line X.env = pure false := by rfl) (hf : X.fn x = true ∨ X.env.scope.names.lookup x = some .local := by first | exact .inl rfl | exact .inr rfl | assumption) :
    QS X W (.Assign [.Name x pos'] e pos) (dSetO i df) := ps_imp (ps_set hN hi hx he hs hf) fun D σ H ⟨P, R, S, h, L⟩ =>
  ⟨P, _, _, S, h, fun p xs G1 H1 ds e1 S1 hp gp hx rr h1 => L.nx G1 H1 _ _ (S1.nameOwn (S.x.none_of hp) gp hx rr (S.off hp) (fun i ds q hσ => by
    obtain ⟨p2, xs2, z1, _, _, _, z5, _⟩ := S.e i _ q
    rw [hσ] at z1
    cases z1
    rw [hp] at z5; cases z5)) h1, L.err⟩
theorem s_setT {tg : Expr} {t : Tgt} (he : QE X W e de) (hg : PG X tg (gT X.K t)) (hs : swapsWithSole [tg] e pos.line X.env = pure false := by rfl) (hw : swappedStores [tg] e X.env = pure none := by rfl) (h1 : (assignEach [tg] X.env).map (·.2) = [assign tg X.env] := by rfl) : QS X W (.Assign [tg] e pos) (dSetT t de) :=
  ps_imp (ps_asg he hg hs hw h1) fun D σ H ⟨P, R, S, h, L⟩ => ⟨P, _, _, S, h, fun v G1 H1 d e1 S1 r1 ⟨E', hE, h1⟩ => by
    obtain ⟨σ', S2, gq, _⟩ := tg_ok (K := X.K) S1 r1 hE
    exact gq _ (L.nx G1 H1 σ' E' S2 h1), L.err⟩
theorem s_expr (he : QE X W e de) (hs : swapsWith e none pos.line X.env = pure false := by rfl) : QS X W (.Expr e pos) (dDrop de) := ps_imp (ps_expr he hs) fun D σ H ⟨P, R, S, h, L⟩ =>
  ⟨P, _, _, S, h, fun v G1 H1 d e1 S1 r1 h1 => L.nx G1 H1 σ _ S1 h1, L.err⟩
theorem s_ret (he : QE X W e de) : QS X W (.Return (some e) pos) (dRet de) := ps_imp (ps_ret he) fun D σ H ⟨P, R, S, h, L⟩ =>
  ⟨P, _, _, S, h, fun v G1 H1 d e1 S1 r1 h1 => L.rt v G1 H1 d S1.x S1.w r1 h1, L.err⟩
theorem s_retF (he : QF X W e df) : QS X W (.Return (some e) pos) (dRetF df) := ps_imp (ps_ret he) fun D σ H ⟨P, R, S, h, L⟩ =>
  ⟨P, _, _, S, h, fun p xs G1 H1 ds e1 S1 hp gp hx rr h1 => L.ro p xs G1 H1 ds S1.x S1.w (S.x.none_of hp) gp hx rr h1, L.err⟩
theorem s_retN : QS X W (.Return none pos) dRetN := ps_imp ps_retN fun D σ H ⟨P, R, S, h, L⟩ => L.rt .non P.G H .none S.x S.w .non h
theorem s_retO (i : Nat) {x : Str} {p : Pos} (he : PE X (.Name x p) (tVar i)) : QS X W (.Return (some (.Name x p)) pos) (dRetO i) := ps_imp (ps_ret he) fun D σ H ⟨P, R, S, ⟨ds, hi, h⟩, L⟩ => by
  obtain ⟨p, xs, z1, z2, z3, z4, z5, z6⟩ := S.e i _ hi
  exact ⟨_, z1, L.ro p xs P.G H ds S.x S.w z2 z3 z5 z6 h⟩
theorem s_retL (i : Nat) {x : Str} {p : Pos} (he : PE X (.Name x p) (tVar i)) : QS X W (.Return (some (.Name x p)) pos) (dRetL i) := ps_imp (ps_ret he) fun D σ H ⟨P, R, S, ⟨ds, hi, h⟩, L⟩ => by
  obtain ⟨p, xs, z1, z2, z3, z4, z5, z6⟩ := S.e i _ hi
  obtain ⟨S2, r2⟩ := S.frz hi z1 z5
  exact ⟨_, z1, L.rt _ _ H _ S2.x S2.w r2 h⟩
theorem s_if {c : Expr} {a b : List Stmt} (hc : QT X W c dt) (ha : QSs X W a da) (hb : QSs X W b db) : QS X W (.If c a b pos) (dIfS dt da db) := ps_imp (ps_if hc ha hb) fun D σ H ⟨P, R, S, h, L⟩ =>
  ⟨P, _, _, S, h, fun c G1 H1 e1 S1 ⟨h1, h2⟩ => by
    cases c with
    | true => exact ⟨P.go G1, R, S1, h1 rfl, L⟩
    | false => exact ⟨P.go G1, R, S1, h2 rfl, L⟩, L.err⟩
theorem s_pass : QS X W (.Pass pos) dNext := ps_imp ps_pass fun D σ H ⟨P, R, S, h, L⟩ => L.nx P.G H σ P.E S h
theorem s_break : QS X W (.Break pos) dBreak := ps_imp ps_break fun D σ H ⟨P, R, S, h, L⟩ => L.bk P.G H σ P.E S h
theorem s_cont : QS X W (.Continue pos) dCont := ps_imp ps_continue fun D σ H ⟨P, R, S, h, L⟩ => L.ct P.G H σ P.E S h
theorem ss_frz (i : Nat) (h : QSs X W sts da) : QSs X W sts (dFrz i da) := pss_imp h fun D σ H ⟨P, R, S, ⟨ds, hi, h⟩, L⟩ => by
  obtain ⟨p, xs, z1, z2, z3, z4, z5, z6⟩ := S.e i _ hi
  obtain ⟨S2, _⟩ := S.frz hi z1 z5
  exact ⟨⟨P.bx, P.G0, P.H0, upd P.G p (.lst xs), P.E.set i (.dat (.list ds))⟩, R, S2, h, L⟩
theorem s_for {tg iter : Expr} {body : List Stmt} {di : DI} {t : Tgt} (hp : PassesOwn (model X.prog X.w) X.A X.env X.xe) (hc : X.calm = true) (hi : QI X W tg iter di) (hg : PG X tg (gT X.K t)) (hb : QSs X W body da) (hs : ∀ x, foldedSetIterable iter X.env x = pure x := by intro _; rfl) :
    QS X W (.For tg iter body [] pos) (dFor di t da) := ps_imp (ps_for hp hc hi hg hb hs) fun D σ H ⟨P, R, S, h, L⟩ => by
  refine ⟨P, _, _, S, h, fun G1 H1 J items e1 S1 src h1 => ?_, L.err⟩
  refine ⟨fun i m σ2 H2 => ∃ (G2 : Hp) (E2 : List En), m = items.length - i ∧ i ≤ items.length ∧ Same G1 G2 ∧ SR P.bx P.G0 P.H0 G2 H2 σ2 E2 ∧ forGo t da R (items.drop i) E2, ⟨items.length, G1, P.E, rfl, Nat.zero_le _, Same.refl _, S1, h1⟩, ?_⟩
  rintro i m σ2 H2 ⟨G2, E2, rfl, hi, g2, S2, go⟩
  by_cases hlt : i < items.length
  · refine .inr ⟨src.go i G2 H2 g2 S2.w.s hlt, fun σ3 H3 => ∃ (G3 : Hp) (E3 : List En), Same G1 G3 ∧ SR P.bx P.G0 P.H0 G3 H3 σ3 E3 ∧ forGo t da R (items.drop (i + 1)) E3, fun σ3 H3 ⟨G3, E3, q1, q2, q3⟩ => ⟨items.length - (i + 1), by omega, G3, E3, rfl, hlt, q1, q2, q3⟩, fun x H3 hy => ?_⟩
    obtain ⟨G3, d, e3, s3, hd, r3⟩ := src.yld i G2 H2 x H3 g2 S2.w.s hlt hy
    have S3 := S2.pure e3 s3
    rw [show items.drop i = d :: items.drop (i + 1) by rw [List.drop_eq_getElem_cons hlt]; congr 1; rw [List.getElem?_eq_getElem hlt] at hd; exact Option.some.inj hd] at go
    obtain ⟨E', hE, go⟩ := go
    obtain ⟨σ', S4, gq, _⟩ := tg_ok (K := X.K) S3 r3 hE
    have gg : Same G1 G3 := g2.trans e3.g
    refine gq _ ⟨⟨P.bx, G1, P.H0, G3, E'⟩, _, S4.re0 S1.x.g gg, go, ?_⟩
    exact ⟨fun G H σ E s h => ⟨G, E, s.x.g, s.up0 S1.x, h⟩, fun v G H d e w r h => L.rt v G H d (S1.x.up0 e) w r h, fun p xs G H ds e w hp gp hx rr h => L.ro p xs G H ds (S1.x.up0 e) w hp gp hx rr h, fun G H σ E s h => L.nx G H σ E (s.up0 S1.x) h, fun G H σ E s h => ⟨G, E, s.x.g, s.up0 S1.x, h⟩, fun x cls dd G H σ E s er h => L.ex x cls dd G H σ E (s.up0 S1.x) er h⟩
  · have ei : i = items.length := by omega
    subst ei
    rw [List.drop_length] at go
    exact .inl ⟨src.stop _ G2 H2 g2 S2.w.s (Nat.le_refl _), L.nx G2 H2 σ2 E2 S2 go⟩
theorem s_while {c : Expr} {body : List Stmt} (hp : PassesOwn (model X.prog X.w) X.A X.env X.xe) (hc : QT X W c dt) (hb : QSs X W body da) : QS X W (.While c body [] pos) (dWhile dt da) := ps_imp (ps_while hp hc hb) fun D σ H ⟨P, R, S, ⟨V, ⟨m0, v0⟩, h⟩, L⟩ => by
  refine ⟨fun m σ2 H2 => ∃ (G2 : Hp) (E2 : List En), SR P.bx P.G0 P.H0 G2 H2 σ2 E2 ∧ V m E2, ⟨m0, P.G, P.E, S, v0⟩, ?_⟩
  rintro m σ2 H2 ⟨G2, E2, S2, v⟩
  refine ⟨⟨P.bx, P.G0, P.H0, G2, E2⟩, _, _, S2, h m E2 v, fun c G3 H3 e3 S3 ⟨h1, h2⟩ => ?_, fun x cls dd G' H' S' er hx => L.ex x cls dd G' H' _ _ S' er hx⟩
  cases c with
  | false =>
    rw [if_neg Bool.false_ne_true]
    exact L.nx G3 H3 σ2 E2 S3 (h2 rfl)
  | true =>
    rw [if_pos rfl]
    refine ⟨fun σ4 H4 => ∃ m', m' < m ∧ ∃ (G4 : Hp) (E4 : List En), SR P.bx P.G0 P.H0 G4 H4 σ4 E4 ∧ V m' E4, fun σ4 H4 q => q, ⟨P.bx, P.G0, P.H0, G3, E2⟩, _, S3, h1 rfl, ?_⟩
    exact ⟨fun G H σ E s ⟨m', hm, q⟩ => ⟨m', hm, G, E, s, q⟩, L.rt, L.ro, L.nx, fun G H σ E s ⟨m', hm, q⟩ => ⟨m', hm, G, E, s, q⟩, L.ex⟩
/-! lists of one's own that change -/
theorem s_app (i : Nat) {x : Str} {p apos cpos : Pos} (h : ∀ te, PE X e te → PS X (.Expr (.Call (.Attribute (.Name x p) "append" apos) [e] [] cpos) pos) (tDrop (tBM X.K "list" rAppend (tVar i) (tCons te tNil)))) (he : QE X W e de) :
    QS X W (.Expr (.Call (.Attribute (.Name x p) "append" apos) [e] [] cpos) pos) (dApp i de) := ps_imp (h _ he) fun D σ H ⟨P, R, S, ⟨ds, hi, h⟩, L⟩ => by
  obtain ⟨p, xs, z1, z2, z3, z4, z5, z6⟩ := S.e i _ hi
  refine ⟨_, z1, .inl ⟨rfl, _, SqL.of z5⟩, P, _, _, S, h, fun v G1 H1 d e1 S1 r1 ⟨hz, h1⟩ => ?_, L.err⟩
  obtain ⟨p2, xs2, y1, y2, y3, y4, y5, y6⟩ := S1.e i _ hi
  rw [z1] at y1
  cases y1
  exact ⟨p, xs2, v, rfl, rfl, y5, by rw [y6.length]; exact hz, L.nx _ _ σ _ (S1.mut hi z1 (y6.app (.cons r1 .nil))) h1⟩
theorem s_put (i : Nat) {x : Str} {a : Expr} {p tpos : Pos} (h : ∀ te ti, PE X e te → PE X a ti → PS X (.Assign [.Subscript (.Name x p) a tpos] e pos) (tAsg te (gSub (tVar i) ti rSetL))) (ha : QE X W a di) (he : QE X W e de) :
    QS X W (.Assign [.Subscript (.Name x p) a tpos] e pos) (dPut i di de) := ps_imp (h _ _ he ha) fun D σ H ⟨P, R, S, h, L⟩ =>
  ⟨P, _, _, S, h, fun v G1 H1 d e1 S1 r1 ⟨ds, hi, h1⟩ => by
    obtain ⟨p, xs, z1, z2, z3, z4, z5, z6⟩ := S1.e i _ hi
    refine ⟨_, z1, P.go G1, _, _, S1, h1, fun w G2 H2 z e2 S2 r2 ⟨k, j, ez, hj, h2⟩ => ?_, L.err⟩
    subst ez
    cases r2
    obtain ⟨p2, xs2, y1, y2, y3, y4, y5, y6⟩ := S2.e i _ hi
    rw [z1] at y1
    cases y1
    exact ⟨p, xs2, k, j, rfl, rfl, y5, by rw [y6.length]; exact hj, L.nx _ _ σ _ (S2.mut hi z1 (y6.st (r1.up e2.g) j)) h2⟩, L.err⟩
def rInsert : V → List V → Hp → VK → Prop := fun x vs H Q => ∃ (l : Addr) (xs : List V) (i : Int) (y : V), x = .ref l ∧ vs = [.int i, y] ∧ H l = some (.lst xs) ∧ xs.length < sizeLine ∧ 0 ≤ i ∧ i < 2 ^ 63 ∧
    Q .non (upd H l (.lst (xs.take i.toNat ++ [y] ++ xs.drop i.toNat)))
theorem s_ins (i : Nat) {x : Str} {a : Expr} {p apos cpos : Pos} (h : ∀ ti te, PE X a ti → PE X e te → PS X (.Expr (.Call (.Attribute (.Name x p) "insert" apos) [a, e] [] cpos) pos) (tDrop (tBM X.K "list" rInsert (tVar i) (tCons ti (tCons te tNil))))) (ha : QE X W a di) (he : QE X W e de) :
    QS X W (.Expr (.Call (.Attribute (.Name x p) "insert" apos) [a, e] [] cpos) pos) (dIns i di de) := ps_imp (h _ _ ha he) fun D σ H ⟨P, R, S, ⟨ds, hi, h⟩, L⟩ => by
  obtain ⟨p, xs, z1, z2, z3, z4, z5, z6⟩ := S.e i _ hi
  refine ⟨_, z1, .inl ⟨rfl, _, SqL.of z5⟩, P, _, _, S, h, fun w G1 H1 z e1 S1 r1 h1 => ⟨P.go G1, _, _, S1, h1, fun v G2 H2 d e2 S2 r2 ⟨k, ez, hz, hk, hk2, h2⟩ => ?_, L.err⟩, L.err⟩
  subst ez
  cases r1
  obtain ⟨p2, xs2, y1, y2, y3, y4, y5, y6⟩ := S2.e i _ hi
  rw [z1] at y1
  cases y1
  exact ⟨p, xs2, k, v, rfl, rfl, y5, by rw [y6.length]; exact hz, hk, hk2, L.nx _ _ σ _ (S2.mut hi z1 (((y6.tk _).app (.cons r2 .nil)).app (y6.dr _))) h2⟩
/-! errors -/
theorem s_raise {n : Str} {e : Expr} {t : L2.St → Hp → XK → Prop} (hc : X.calm = true) (tk : Takes X W) (he : PMk X e t) (ht : ∀ σ H (Q : XK), Q (.ref (He.ga X.K n)) none H → t σ H Q) : QS X W (.Raise (some e) none pos) (dRaise n) :=
  ps_imp (ps_raise hc tk he) fun D σ H ⟨P, R, S, h, L⟩ => ht σ H _ (L.ex (n, none) _ none P.G H σ P.E S ⟨rfl, rfl⟩ h)
end

/-! ### a def keeps its promise -/
def startE (n : Nat) (as : List En) : List En := as ++ List.replicate (n - as.length) .un
theorem argsOk_len {bx : Option Bx} {G : Hp} : ∀ {vs : List V} {as : List En}, ArgsOk bx G vs as → vs.length = as.length
  | _, _, .nil => rfl
  | _, _, .cons _ t => by rw [List.length_cons, List.length_cons, argsOk_len t]
theorem argsOk_at {bx : Option Bx} {G : Hp} : ∀ {vs : List V} {as : List En} {i : Nat} {a : En}, ArgsOk bx G vs as → as[i]? = some a → ∃ v, vs[i]? = some v ∧ ArgOk bx G v a
  | _, _, _, _, .nil, e => by simp at e
  | _, _, 0, _, .cons r _, e => by simp at e; subst e; exact ⟨_, rfl, r⟩
  | _, _, i + 1, a, .cons _ t, e => by
    obtain ⟨v, h1, h2⟩ := argsOk_at (i := i) (a := a) t (by simpa using e)
    exact ⟨v, by simpa using h1, h2⟩
theorem start_ok {bx : Option Bx} {G H : Hp} {N : List Str} {vs : List V} {as : List En} (w : Wo bx G H) (r : ArgsOk bx G vs as) : SR bx G H G H (L2.start N vs) (startE N.length as) := by
  have hl := argsOk_len r
  have ent : ∀ i en, (startE N.length as)[i]? = some en → (en = .un ∨ ∃ v, (L2.start N vs)[i]? = some (some v) ∧ ArgOk bx G v en) := fun i en q => by
    unfold startE at q
    by_cases hi : i < as.length
    · rw [List.getElem?_append_left hi] at q
      obtain ⟨v, h1, h2⟩ := argsOk_at r q
      refine .inr ⟨v, ?_, h2⟩
      unfold L2.start
      rw [List.getElem?_append_left (by simpa [hl] using hi), List.getElem?_map, h1]
      rfl
    · rw [List.getElem?_append_right (by omega)] at q
      exact .inl (List.eq_of_mem_replicate (List.mem_of_getElem? q))
  refine ⟨by unfold L2.start startE; simp [hl], Ext.refl, w, fun i en q => ?_, fun i j ds es p _ q1 _ _ _ => ?_⟩
  · rcases ent i en q with rfl | ⟨v, h1, h2⟩
    · trivial
    · cases en with
      | un => trivial
      | dat d => exact ⟨v, h1, h2⟩
      | own ds => exact h2.elim
      | box => obtain ⟨z, hz, e⟩ := h2; exact ⟨z, hz, by rw [h1, e]⟩
      | raw u => exact h1.trans (by rw [show v = u from h2])
  · rcases ent i _ q1 with e | ⟨v, _, h2⟩
    · cases e
    · exact h2.elim
section
variable {P : Program} {w : World} {K : PySem.W.Frag} {mg : Str → Option Value} {base : Heap} {x : Str} {params : Arguments} {body : List Stmt} {scope : Scope} {f : Addr} {fd : FuncData} {N ps : List Str} {k : Nat} {ds : DS}
/-- a def from which no error leaves: what it hands back is data -/
theorem mkF {sp : DSp} (F : FunD K x x params body scope [] [] f fd) (S : FnScope N ps scope) (len : ∀ as R Xn, sp as R Xn → as.length = ps.length)
    (hb : ∀ (cdv : Value) (A : Around) (outer : List Env) (s : Shared) (H : Hp) (E : XK), Room k (A.deeper (envOfC x scope s.heap.objs.size f cdv)) → QSs (cxOf CX0 P w K mg base N x scope f cdv A outer s H E).nox WF body ds)
    (pure : ∀ as R Xn, sp as R Xn → ds { nx := fun _ => R .none, rt := R } (startE N.length as)) : FnOk P w K mg base CX0 (k + 1) f fd ps (spF K sp) :=
  F.ok S (fun vs H Q E ⟨_, _, as, R, Xn, _, r, h, _⟩ => (argsOk_len r).trans (len as R Xn h)) fun cdv A outer s H vs Q E hr ⟨bx, G, as, R, Xn, wo, r, h, k, kx⟩ =>
  ⟨_, (hb cdv A outer s H E hr).nox, ⟨bx, G, H, G, startE N.length as⟩, _, start_ok wo r, pure as R Xn h,
    ⟨fun G' H' σ E s h => k .non G' H' .none s.x s.w .non h, fun v G' H' d e w r h => k v G' H' d e w r h, fun _ _ _ _ _ _ _ _ _ _ _ f => f.elim, fun _ _ _ _ _ f => f.elim, fun _ _ _ _ _ f => f.elim, fun _ _ _ _ _ _ _ _ _ f => f.elim⟩⟩
/-- .. a new list -/
theorem mkO {sp : DSpF} (F : FunD K x x params body scope [] [] f fd) (S : FnScope N ps scope) (len : ∀ as R Xn, sp as R Xn → as.length = ps.length)
    (hb : ∀ (cdv : Value) (A : Around) (outer : List Env) (s : Shared) (H : Hp) (E : XK), Room k (A.deeper (envOfC x scope s.heap.objs.size f cdv)) → QSs (cxOf CX0 P w K mg base N x scope f cdv A outer s H E).nox WF body ds)
    (pure : ∀ as R Xn, sp as R Xn → ds { nx := fun _ => False, ro := R } (startE N.length as)) : FnOk P w K mg base CX0 (k + 1) f fd ps (spO K sp) :=
  F.ok S (fun vs H Q E ⟨_, _, as, R, Xn, _, r, h, _⟩ => (argsOk_len r).trans (len as R Xn h)) fun cdv A outer s H vs Q E hr ⟨bx, G, as, R, Xn, wo, r, h, k, kx⟩ =>
  ⟨_, (hb cdv A outer s H E hr).nox, ⟨bx, G, H, G, startE N.length as⟩, _, start_ok wo r, pure as R Xn h,
    ⟨fun _ _ _ _ _ f => f.elim, fun _ _ _ _ _ _ _ f => f.elim, fun p xs G' H' ds e w hp gp hx rr h => k p xs G' H' ds e w hp gp hx rr h, fun _ _ _ _ _ f => f.elim, fun _ _ _ _ _ f => f.elim, fun _ _ _ _ _ _ _ _ _ f => f.elim⟩⟩
/-- what is wanted of an error that leaves the def -/
abbrev WD (E : XK) : WX := fun cls d _ H => E cls d H
theorem mkX {sp : DSp} (F : FunD K x x params body scope [] [] f fd) (S : FnScope N ps scope) (len : ∀ as R Xn, sp as R Xn → as.length = ps.length)
    (hb : ∀ (cdv : Value) (A : Around) (outer : List Env) (s : Shared) (H : Hp) (E : XK), Room k (A.deeper (envOfC x scope s.heap.objs.size f cdv)) → QSs (cxOf (L2.CX P w) P w K mg base N x scope f cdv A outer s H E) (WD E) body ds)
    (pure : ∀ as R Xn, sp as R Xn → ds { nx := fun _ => R .none, rt := R, ex := fun x _ => Xn x } (startE N.length as)) : FnOk P w K mg base (L2.CX P w) (k + 1) f fd ps (spF K sp) :=
  F.ok S (fun vs H Q E ⟨_, _, as, R, Xn, _, r, h, _⟩ => (argsOk_len r).trans (len as R Xn h)) fun cdv A outer s H vs Q E hr ⟨bx, G, as, R, Xn, wo, r, h, k, kx⟩ =>
  ⟨_, hb cdv A outer s H E hr, ⟨bx, G, H, G, startE N.length as⟩, _, start_ok wo r, pure as R Xn h,
    ⟨fun G' H' σ E s h => k .non G' H' .none s.x s.w .non h, fun v G' H' d e w r h => k v G' H' d e w r h, fun _ _ _ _ _ _ _ _ _ _ _ f => f.elim, fun _ _ _ _ _ f => f.elim, fun _ _ _ _ _ f => f.elim, fun x cls dd G' H' σ E s er h => kx x cls dd G' H' s.x s.w er h⟩⟩
theorem mkXO {sp : DSpF} (F : FunD K x x params body scope [] [] f fd) (S : FnScope N ps scope) (len : ∀ as R Xn, sp as R Xn → as.length = ps.length)
    (hb : ∀ (cdv : Value) (A : Around) (outer : List Env) (s : Shared) (H : Hp) (E : XK), Room k (A.deeper (envOfC x scope s.heap.objs.size f cdv)) → QSs (cxOf (L2.CX P w) P w K mg base N x scope f cdv A outer s H E) (WD E) body ds)
    (pure : ∀ as R Xn, sp as R Xn → ds { nx := fun _ => False, ro := R, ex := fun x _ => Xn x } (startE N.length as)) : FnOk P w K mg base (L2.CX P w) (k + 1) f fd ps (spO K sp) :=
  F.ok S (fun vs H Q E ⟨_, _, as, R, Xn, _, r, h, _⟩ => (argsOk_len r).trans (len as R Xn h)) fun cdv A outer s H vs Q E hr ⟨bx, G, as, R, Xn, wo, r, h, k, kx⟩ =>
  ⟨_, hb cdv A outer s H E hr, ⟨bx, G, H, G, startE N.length as⟩, _, start_ok wo r, pure as R Xn h,
    ⟨fun _ _ _ _ _ f => f.elim, fun _ _ _ _ _ _ _ f => f.elim, fun p xs G' H' ds e w hp gp hx rr h => k p xs G' H' ds e w hp gp hx rr h, fun _ _ _ _ _ f => f.elim, fun _ _ _ _ _ f => f.elim, fun x cls dd G' H' σ E s er h => kx x cls dd G' H' s.x s.w er h⟩⟩
end
end Wx

namespace Wx
open PySem PySem.Spec PyProof.Rows L2

/-! ### the built-ins' names, free in every law -/
structure Fr (mg : Str → Option Value) : Prop where
  len : mg "len" = none
  list : mg "list" = none
  tuple : mg "tuple" = none
  range : mg "range" = none
  isi : mg "isinstance" = none
  int : mg "int" = none
  bool : mg "bool" = none
  str : mg "str" = none
  dict : mg "dict" = none
  all : mg "all" = none
  any : mg "any" = none
  sorted : mg "sorted" = none
  min : mg "min" = none
  max : mg "max" = none
  set : mg "set" = none
  enum : mg "enumerate" = none
  rev : mg "reversed" = none
  zip : mg "zip" = none
theorem bv_len : bootBuiltins ("len" : Str) = some (.builtin "len") := by decide +kernel
theorem bv_list : bootBuiltins ("list" : Str) = some (.type "list") := by decide +kernel
theorem bv_tuple : bootBuiltins ("tuple" : Str) = some (.type "tuple") := by decide +kernel
theorem bv_int : bootBuiltins ("int" : Str) = some (.type "int") := by decide +kernel
theorem bv_str : bootBuiltins ("str" : Str) = some (.type "str") := by decide +kernel
theorem bv_bool : bootBuiltins ("bool" : Str) = some (.type "bool") := by decide +kernel
theorem bv_all : bootBuiltins ("all" : Str) = some (.builtin "all") := by decide +kernel
theorem bv_any : bootBuiltins ("any" : Str) = some (.builtin "any") := by decide +kernel
theorem bv_sorted : bootBuiltins ("sorted" : Str) = some (.builtin "sorted") := by decide +kernel
theorem bv_min : bootBuiltins ("min" : Str) = some (.builtin "min") := by decide +kernel
theorem bv_max : bootBuiltins ("max" : Str) = some (.builtin "max") := by decide +kernel
section
variable {X : Cx} {W : WX} {pos p p2 : Pos} {e e2 : Expr} {es : List Expr} {da : DA} {de db : DE}
theorem b_len (fr : Fr X.mg) (ha : QA X W [e] da) (hg : Gl X "len" := by rfl) (he : starEach [e] X.env = (false, eval e X.env) :: starEach [] X.env := by rfl) : QE X W (.Call (.Name "len" p) [e] [] pos) (dCB fLen da) := q_callB call_len len_ok fr.len ha hg bv_len (by decide) (by decide) he rfl
theorem b_list (fr : Fr X.mg) (ha : QA X W [e] da) (hg : Gl X "list" := by rfl) (he : starEach [e] X.env = (false, eval e X.env) :: starEach [] X.env := by rfl) : QF X W (.Call (.Name "list" p) [e] [] pos) (dCBF fList da) := f_callT call_list_of list_ok fr.list ha hg bv_list (by decide) (by decide) he rfl
theorem b_tuple (fr : Fr X.mg) (ha : QA X W [e] da) (hg : Gl X "tuple" := by rfl) (he : starEach [e] X.env = (false, eval e X.env) :: starEach [] X.env := by rfl) : QE X W (.Call (.Name "tuple" p) [e] [] pos) (dCB fTuple da) := q_callT call_tuple_of tuple_ok fr.tuple ha hg bv_tuple (by decide) (by decide) he rfl
theorem b_all (fr : Fr X.mg) (hc : X.calm = true) (ha : QA X W [e] da) (hg : Gl X "all" := by rfl) (he : starEach [e] X.env = (false, eval e X.env) :: starEach [] X.env := by rfl) : QE X W (.Call (.Name "all" p) [e] [] pos) (dCB fAll da) := q_callB (cr_all hc) all_ok fr.all ha hg bv_all (by decide) (by decide) he rfl
theorem b_any (fr : Fr X.mg) (hc : X.calm = true) (ha : QA X W [e] da) (hg : Gl X "any" := by rfl) (he : starEach [e] X.env = (false, eval e X.env) :: starEach [] X.env := by rfl) : QE X W (.Call (.Name "any" p) [e] [] pos) (dCB fAny da) := q_callB (cr_any hc) any_ok fr.any ha hg bv_any (by decide) (by decide) he rfl
theorem b_int (fr : Fr X.mg) (ha : QA X W [e] da) (hg : Gl X "int" := by rfl) (he : starEach [e] X.env = (false, eval e X.env) :: starEach [] X.env := by rfl) : QE X W (.Call (.Name "int" p) [e] [] pos) (dCB fInt da) := q_callT call_intA int_ok fr.int ha hg bv_int (by decide) (by decide) he rfl
theorem b_str (fr : Fr X.mg) (ha : QA X W [e] da) (hg : Gl X "str" := by rfl) (he : starEach [e] X.env = (false, eval e X.env) :: starEach [] X.env := by rfl) : QE X W (.Call (.Name "str" p) [e] [] pos) (dCB fStr da) := q_callT call_str_int str_ok fr.str ha hg bv_str (by decide) (by decide) he rfl
theorem b_sorted (fr : Fr X.mg) (ha : QA X W [e] da) (hg : Gl X "sorted" := by rfl) (he : starEach [e] X.env = (false, eval e X.env) :: starEach [] X.env := by rfl) : QF X W (.Call (.Name "sorted" p) [e] [] pos) (dCBF fSorted da) := f_callB cr_sortedA sorted_ok fr.sorted ha hg bv_sorted (by decide) (by decide) he rfl
theorem b_min (fr : Fr X.mg) (hc : X.calm = true) (ha : QA X W [e, e2] da) (hg : Gl X "min" := by rfl) (he : starEach [e, e2] X.env = (false, eval e X.env) :: starEach [e2] X.env := by rfl) (hpl : (backTo pos (starEach [e2] X.env)).any (·.1) = false := by rfl) : QE X W (.Call (.Name "min" p) [e, e2] [] pos) (dCB fMin2 da) := q_callB (call_min2 hc) min2_ok fr.min ha hg bv_min (by decide) (by decide) he hpl
theorem b_max (fr : Fr X.mg) (hc : X.calm = true) (ha : QA X W [e, e2] da) (hg : Gl X "max" := by rfl) (he : starEach [e, e2] X.env = (false, eval e X.env) :: starEach [e2] X.env := by rfl) (hpl : (backTo pos (starEach [e2] X.env)).any (·.1) = false := by rfl) : QE X W (.Call (.Name "max" p) [e, e2] [] pos) (dCB fMax2 da) := q_callB (call_max2 hc) max2_ok fr.max ha hg bv_max (by decide) (by decide) he hpl
theorem b_isi {T : String} {x : Str} (fr : Fr X.mg) (hT : T ∈ ["int", "bool", "str", "list", "tuple"]) (hx : X.mg x = none) (hv : bootBuiltins x = some (.type T)) (ha : QE X W e de) (hgx : Gl X x := by rfl) (hg : Gl X "isinstance" := by rfl) (hnx : x ≠ "__name__" := by decide) (hdx : (x == ("__debug__" : Str)) = false := by decide)
    (he : starEach [e, .Name x p2] X.env = (false, eval e X.env) :: starEach [.Name x p2] X.env := by rfl) (he2 : starEach [.Name x p2] X.env = (false, eval (.Name x p2) X.env) :: starEach [] X.env := by rfl) (hpl : (backTo pos (starEach [.Name x p2] X.env)).any (·.1) = false := by rfl) :
    QE X W (.Call (.Name "isinstance" p) [e, .Name x p2] [] pos) (dIsi T de) := q_isi hT fr.isi hx ha hgx hv hg hnx hdx he he2 hpl
/-- a number, a text of the module -/
theorem q_gi {x : Str} {i : Int} (h : ∃ t, X.mg x = some (.int i t)) (hg : Gl X x := by rfl) (hd : (x == ("__debug__" : Str)) = false := by decide) : QE X W (.Name x pos) (dC (.int i)) := by
  obtain ⟨t, h⟩ := h
  exact q_gint (pe_glob hg h ⟨t, rfl⟩ hd)
theorem q_gs {x : Str} {i : Str} (h : ∃ t, X.mg x = some (.str i t)) (hg : Gl X x := by rfl) (hd : (x == ("__debug__" : Str)) = false := by decide) : QE X W (.Name x pos) (dC (.str i)) := by
  obtain ⟨t, h⟩ := h
  exact q_gstr (pe_glob hg h ⟨t, rfl⟩ hd)
end
/-! lists of one's own: the walk's terms -/
section
variable {X : Cx} {W : WX} {pos p apos cpos tpos : Pos} {x : Str} {e a : Expr} {de di : DE}
theorem s_append (i : Nat) (hv : PE X (.Name x p) (tVar i)) (he : QE X W e de) (hst : starEach [e] X.env = (false, eval e X.env) :: starEach [] X.env := by rfl) (hb : attributeBase (.Name x p) "append" X.env (eval (.Name x p) X.env) = eval (.Name x p) X.env := by rfl)
    (h : ∀ te, PE X e te → PE X (.Call (.Attribute (.Name x p) "append" apos) [e] [] cpos) (tBM X.K "list" rAppend (tVar i) (tCons te tNil)))
    (hs : swapsWith (.Call (.Attribute (.Name x p) "append" apos) [e] [] cpos) none pos.line X.env = pure false := by rfl) : QS X W (.Expr (.Call (.Attribute (.Name x p) "append" apos) [e] [] cpos) pos) (dApp i de) :=
  s_app i (fun te ht => ps_expr (h te ht) hs) he
end

/-! ### the box's draws -/
/-- a number below n, whichever -/
def sp_take : DSp := fun as R _ => ∃ n : Int, as = [.box, .dat (.int n)] ∧ 0 < n ∧ n < 1073741824 ∧ ∀ i, 0 ≤ i → i < n → R (.int i)
def sp_mixed : DSp := fun as R _ => ∃ a b : Int, as = [.dat (.int a), .dat (.int b)] ∧ ∀ i, R (.int i)
end Wx

namespace Wx
open PySem PySem.Spec PyProof.Rows L2

/-! ### the room for a comparison, for what passes -/
theorem Room.hu {k : Nat} {A : Around} (r : Room k A) : A.units + 65 < cLine := by have := r.un; omega

/-! ### a comprehension straight to its name -/
section
variable {X : Cx} {W : WX} {elt tgE iter : Expr} {ifs : List Expr} {scope : Scope} {own : List (Str × Nat)} {pos spos py : Pos} {di : DI} {tg : Tgt} {dt : DT} {de : DE} {i : Nat} {y : Str} {df : DF}
theorem bw_lift {K : PySem.W.Frag} {σ : L2.St} {H : Hp} {Q : VK} (j : Nat) (h : liftF K W (dBwF j df) σ H Q) : liftF K W df σ H Q := by
  obtain ⟨P, R, Xn, S, ⟨ds, hi, h⟩, k, kx⟩ := h
  obtain ⟨p, xs, z1, z2, z3, z4, z5, z6⟩ := S.e j _ hi
  obtain ⟨S2, _⟩ := S.frz hi z1 z5
  refine ⟨⟨P.bx, P.G0, P.H0, upd P.G p (.lst xs), P.E.set j (.dat (.list ds))⟩, _, _, S2, h, fun q ys G1 H1 es e1 S1 hq gq hx rr ⟨hn, hR⟩ => ?_, fun _ _ _ _ _ _ _ f => f.elim⟩
  obtain ⟨gp, e2, S3⟩ := S.back hi z1 z5 e1 S1.w
  refine k q ys _ H1 es e2 S3 hq ?_ hx (rps_cut gp es ys hn rr) hR
  by_cases h : q = p
  · rw [h, cutH_same]
  · rw [cutH_ne h]; exact gq
theorem s_setLcO (hc : X.calm = true) (hN : X.N.Nodup) (hy : X.N[i]? = some y) (hyl : X.env.scope.names.lookup y = some .local) (hsw : swapsWith (.ListComp elt [⟨tgE, iter, ifs, 0⟩] scope pos) (some (.Name y py)) spos.line X.env = pure true)
    (hb : ∀ σ H Q, liftF X.K W df σ H Q → liftF X.K W (dLc di tg dt de (own.map (·.2))) σ H Q) (hi : QI X W tgE iter di) (ok : blkC X.N X.env.scope scope own = true) (hv : ∀ i ∈ tg.is, i ∈ own.map (·.2))
    (hg : ∀ (s : Shared) (H : Hp) (C : Addr) (cl : List (Str × Addr)) (fp : List Addr), PG (X.blk s H scope (compEnvC scope cl C X.env) fp) tgE (gT X.K tg)) (ht : ∀ (s : Shared) (H : Hp) (C : Addr) (cl : List (Str × Addr)) (fp : List Addr), PTs (X.blk s H scope (compEnvC scope cl C X.env) fp) ifs (liftT X.K WF dt))
    (he : ∀ (s : Shared) (H : Hp) (C : Addr) (cl : List (Str × Addr)) (fp : List Addr), QE (X.blk s H scope (compEnvC scope cl C X.env) fp) WF elt de) (hs : ∀ x, foldedSetIterable iter X.env x = pure x := by intro _; rfl) :
    QS X W (.Assign [.Name y py] (.ListComp elt [⟨tgE, iter, ifs, 0⟩] scope pos) spos) (dSetO i df) :=
  ps_imp (ps_setLc hc hN hy hyl hsw hi (blkOk_by ok) hg ht he hs) fun D σ H ⟨P, R, S, h, L⟩ => lift_lc (K := X.K) hv (hb _ _ _ ⟨P, _, _, S, h, fun p xs G1 H1 ds e1 S1 hp gp hx rr h1 => L.nx G1 H1 _ _ (S1.nameOwn (S.x.none_of hp) gp hx rr (S.off hp) (fun i ds q hσ => by
    obtain ⟨p2, xs2, z1, _, _, _, z5, _⟩ := S.e i _ q
    rw [hσ] at z1
    cases z1
    rw [hp] at z5; cases z5)) h1, L.err⟩)
theorem s_setLc (hc : X.calm = true) (hN : X.N.Nodup) (hy : X.N[i]? = some y) (hyl : X.env.scope.names.lookup y = some .local) (hsw : swapsWith (.ListComp elt [⟨tgE, iter, ifs, 0⟩] scope pos) (some (.Name y py)) spos.line X.env = pure true)
    (hb : ∀ σ H Q, liftF X.K W df σ H Q → liftF X.K W (dLc di tg dt de (own.map (·.2))) σ H Q) (hi : QI X W tgE iter di) (ok : blkC X.N X.env.scope scope own = true) (hv : ∀ i ∈ tg.is, i ∈ own.map (·.2))
    (hg : ∀ (s : Shared) (H : Hp) (C : Addr) (cl : List (Str × Addr)) (fp : List Addr), PG (X.blk s H scope (compEnvC scope cl C X.env) fp) tgE (gT X.K tg)) (ht : ∀ (s : Shared) (H : Hp) (C : Addr) (cl : List (Str × Addr)) (fp : List Addr), PTs (X.blk s H scope (compEnvC scope cl C X.env) fp) ifs (liftT X.K WF dt))
    (he : ∀ (s : Shared) (H : Hp) (C : Addr) (cl : List (Str × Addr)) (fp : List Addr), QE (X.blk s H scope (compEnvC scope cl C X.env) fp) WF elt de) (hs : ∀ x, foldedSetIterable iter X.env x = pure x := by intro _; rfl) :
    QS X W (.Assign [.Name y py] (.ListComp elt [⟨tgE, iter, ifs, 0⟩] scope pos) spos) (dSet i (dFz df)) :=
  ps_imp (ps_setLc hc hN hy hyl hsw hi (blkOk_by ok) hg ht he hs) fun D σ H ⟨P, R, S, h, L⟩ => lift_lc (K := X.K) hv (hb _ _ _ ⟨P, _, _, S, h, fun p xs G1 H1 ds e1 S1 hp gp hx rr h1 => by
    obtain ⟨e2, S2⟩ := S1.freeze e1 S hp gp hx
    have gg : Same G1 (upd G1 p (.lst xs)) := fun a u q => by rw [upd_ne (ne_of_none q gp)]; exact q
    exact L.nx _ _ _ _ (S2.setDat (.lst upd_same (rr.up gg))) h1, L.err⟩)
end

/-! ### the box -/
structure BoxAt (z : Bx) (G H : Hp) (ns : List Int) (p q r s : Int) : Prop where
  at_ : H z.b = some (.lst [.ref z.a, .int p, .int q, .int r, .int s])
  ns : Rp G (.ref z.a) (.list (ns.map .int))
  pos : 0 ≤ p
theorem box_turn {z : Bx} {G H : Hp} {ns : List Int} {p q r s p' q' r' s' : Int} (w : Wo (some z) G H) (b : BoxAt z G H ns p q r s) (hp : 0 ≤ p') :
    Ext (some z) G H G (upd H z.b (.lst [.ref z.a, .int p', .int q', .int r', .int s'])) ∧ Wo (some z) G (upd H z.b (.lst [.ref z.a, .int p', .int q', .int r', .int s'])) ∧ BoxAt z G (upd H z.b (.lst [.ref z.a, .int p', .int q', .int r', .int s'])) ns p' q' r' s' := by
  obtain ⟨gb, _⟩ := w.b z rfl
  have b' : BoxAt z G (upd H z.b (.lst [.ref z.a, .int p', .int q', .int r', .int s'])) ns p' q' r' s' := ⟨upd_same, b.ns, hp⟩
  refine ⟨⟨Same.refl G, fun a o off e => ?_, fun a o e => .inl e, fun a o e => ?_⟩, ⟨fun a o e => ?_, fun z2 hz => ?_⟩, b'⟩
  · rw [upd_ne (fun h => off z rfl h.symm)]; exact e
  · by_cases h : a = z.b
    · rw [h]; exact ⟨_, upd_same⟩
    · rw [upd_ne h]; exact ⟨o, e⟩
  · rw [upd_ne (ne_of_none e gb)]; exact w.s a o e
  · cases hz
    exact ⟨gb, ns, p', q', r', s', b'.at_, b'.ns, b'.pos⟩

/-! ### the box made, a number mixed, a number taken: their walks' readings -/
abbrev xAdd : R2 := rI0 fun i j => .int (i + j)
abbrev xMul : R2 := rI CMul fun i j => .int (i * j)
abbrev xDiv : R2 := rI CDiv fun i j => .int (i / j)
abbrev xMod : R2 := rI (fun _ j => 0 < j) fun i j => .int (i % j)
abbrev xI (n : Int) : TE := tC (.int n)
section
variable (K : PySem.W.Frag)
def tCut63 : TE := tSl (rSlL K) (tVar 0) tNoPart (tPart (xI 63))
def t_boxed : TS := tSeq (tAsg (xI 0) (gName 1)) (tSeq (tFor (iList K (tCut63 K)) (gName 2) (tAsg (tOp xMod (tOp xAdd (tOp xAdd (tOp xMul (tVar 1) (xI 31)) (tVar 2)) (xI 17)) (xI 2147483647)) (gName 1)))
  (tRet (tLst (tCons (tCB (fun xs H Q => ∃ p ys, xs = [.ref p] ∧ (SqL K H p ys ∨ SqT K H p ys) ∧ ∀ l, H l = none → Q (.ref l) (upd H l (.lst ys))) (tCons (tCut63 K) tNil)) (tCons (xI 0) (tCons (xI 0) (tCons (xI 0) (tCons (tVar 1) tNil))))))))
/-- what the box's maker gives -/
def spBox : Sp := fun vs H Q _ => ∃ (a : Addr) (ns : List Int), vs = [.ref a] ∧ SqL K H a (ns.map V.int) ∧ ns.length ≤ 63 ∧
  ∀ (H' : Hp) (c b : Addr) (s : Int), c ≠ b → H' c = some (.lst (ns.map V.int)) → H' b = some (.lst [.ref c, .int 0, .int 0, .int 0, .int s]) → Q (.ref b) H'
theorem cut63 {ns : List Int} (h : ns.length ≤ 63) : cutV (ns.map V.int) none (some 63) = ns.map V.int := by
  have e : HT.sIx (ns.map V.int).length (ns.map V.int).length (some 63) - HT.sIx (ns.map V.int).length 0 none = ns.length := by
    simp [HT.sIx]
    omega
  have e2 : HT.sIx (ns.map V.int).length 0 none = 0 := rfl
  unfold cutV
  rw [e, e2, List.drop_zero, List.take_of_length_le (by simp)]
theorem pure_boxed (vs : List V) (H : Hp) (Q : VK) (E : XK) (h : spBox K vs H Q E) (N : List Str) (hN : N.length = 3) : t_boxed K { nx := fun _ H' => Q .non H', rt := Q } (L2.start N vs) H := by
  obtain ⟨a, ns, rfl, hS, hl, hQ⟩ := h
  have e0 : L2.start N [.ref a] = [some (.ref a), none, none] := by
    unfold L2.start
    simp [hN, List.replicate]
  rw [e0]
  refine ⟨.ref a, rfl, ?_⟩
  refine ⟨63, rfl, ?_⟩
  refine ⟨a, _, rfl, hS, fun p hp => ?_⟩
  refine ⟨p, rfl, ⟨_, SqL.of upd_same⟩, ?_⟩
  rw [cut63 hl]
  have hSu : SqL K (upd H p (.lst (ns.map V.int))) a (ns.map V.int) := hS.elim (fun h => .inl (h.elim (fun h => .inl (by rw [upd_ne (ne_of_none h hp)]; exact h)) fun ⟨o, h⟩ => .inr ⟨o, by rw [upd_ne (ne_of_none h hp)]; exact h⟩)) .inr
  refine ⟨fun i m σ H2 => H2 = upd H p (.lst (ns.map V.int)) ∧ i ≤ ns.length ∧ m = ns.length - i ∧ ∃ (s : Int) (y : Option V), σ = [some (.ref a), some (.int s), y], ⟨_, rfl, Nat.zero_le _, rfl, 0, none, rfl⟩, ?_⟩
  rintro i m σ H2 ⟨rfl, hi, rfl, s, y, rfl⟩
  by_cases hlt : i < ns.length
  · refine .inr ⟨⟨_, .int ns[i], SqL.of upd_same, by simp [hlt]⟩, _, fun σ' H' q => ⟨ns.length - (i + 1), by omega, q⟩, fun x H' ⟨e1, e2⟩ => ?_⟩
    subst e1
    have e2 := e2 _ (SqL.of upd_same)
    simp [hlt] at e2
    subst e2
    refine ⟨_, rfl, s, 31, rfl, rfl, .inr ⟨by decide, by decide⟩, _, rfl, _, _, rfl, rfl, _, _, rfl, rfl, _, _, rfl, rfl, (by decide : (0 : Int) < 2147483647), rfl, hlt, rfl, _, _, rfl⟩
  · have ei : i = ns.length := by omega
    subst ei
    refine .inl ⟨⟨_, SqL.of upd_same, by simp⟩, .ref a, rfl, 63, rfl, a, _, rfl, hSu, fun p2 hp2 => ?_⟩
    rw [cut63 hl]
    refine ⟨p2, _, rfl, .inl (SqL.of upd_same), fun c hc => ⟨_, rfl, by show 5 ≤ sizeLine; rw [show sizeLine = 2 ^ 24 from rfl]; decide, fun b hb => ?_⟩⟩
    refine hQ _ c b s ?_ ?_ upd_same
    · intro e; rw [e, upd_same] at hb; cases hb
    · rw [upd_ne (by intro e; rw [← e, upd_same] at hb; cases hb)]
      exact upd_same

/-- a number mixed -/
def t_mixed : TS := tSeq (tAsg (tOp xMod (tOp xAdd (tOp xAdd (tOp xMul (tVar 0) (xI 48271)) (tOp xMul (tVar 1) (xI 69621))) (xI 12345)) (xI 2147483647)) (gName 2))
  (tSeq (tAsg (tOp xMod (tOp xAdd (tOp xAdd (tOp xMul (tVar 2) (tOp xAdd (tOp xMod (tVar 2) (xI 65521)) (xI 7))) (tOp xMul (tVar 1) (xI 40692))) (tOp xMod (tVar 0) (xI 104729))) (xI 998244353)) (gName 3))
  (tRet (tOp xDiv (tVar 3) (xI 7))))
def spMixed : Sp := fun vs H Q _ => ∃ a b : Int, vs = [.int a, .int b] ∧ ∀ i : Int, Q (.int i) H
theorem pure_mixed (vs : List V) (H : Hp) (Q : VK) (E : XK) (h : spMixed vs H Q E) (N : List Str) (hN : N.length = 4) : t_mixed { nx := fun _ H' => Q .non H', rt := Q } (L2.start N vs) H := by
  obtain ⟨a, b, rfl, hQ⟩ := h
  have e0 : L2.start N [.int a, .int b] = [some (.int a), some (.int b), none, none] := by
    unfold L2.start
    simp [hN, List.replicate]
  rw [e0]
  have h1 : ∀ x : Int, (0 ≤ x % 2147483647 ∧ x % 2147483647 < 2147483647) := fun x => ⟨Int.emod_nonneg _ (by decide), Int.emod_lt_of_pos _ (by decide)⟩
  refine ⟨_, rfl, a, 48271, rfl, rfl, .inr ⟨by decide, by decide⟩, _, rfl, b, 69621, rfl, rfl, .inr ⟨by decide, by decide⟩, _, _, rfl, rfl, _, _, rfl, rfl, _, _, rfl, rfl, (by decide : (0 : Int) < 2147483647), ?_⟩
  obtain ⟨h2, h3⟩ := h1 (a * 48271 + b * 69621 + 12345)
  refine ⟨_, rfl, _, rfl, _, _, rfl, rfl, (by decide : (0 : Int) < 65521), _, _, rfl, rfl, _, _, rfl, rfl, .inl ⟨by omega, by omega⟩, _, rfl, b, 40692, rfl, rfl, .inr ⟨by decide, by decide⟩, _, _, rfl, rfl, _, rfl, a, 104729, rfl, rfl, (by decide : (0 : Int) < 104729), _, _, rfl, rfl, _, _, rfl, rfl, (by decide : (0 : Int) < 998244353), ?_⟩
  exact ⟨_, rfl, _, 7, rfl, rfl, ⟨by decide, by decide⟩, hQ _⟩
/-- the box's k-th -/
abbrev xB (k : Int) : TE := tOp (rIx K) (tVar 0) (xI k)
abbrev xSet (k : Int) : TG := gSub (tVar 0) (xI k) rSetL
abbrev xLen : TA → TE := tCB (rLen K)
def xMixed (a b : TE) : TE := tCall spMixed [] E0 (tCons a (tCons b tNil))
abbrev xLt (g : Int → Int → V) (a b : TE) : TT := tTest (tOp (rI0 g) a b)
def t_taken : TS := tSeq (tAsg (tOp xAdd (xB K 3) (xI 1)) (xSet 3))
  (tSeq (tIfS (xLt (fun i j => .bl (decide (j < i))) (xB K 2) (xI 0)) (tSeq (tAsg (xB K 2) (gName 2)) (tSeq (tAsg (tOp xDiv (tVar 2) (tVar 1)) (xSet 2)) (tRet (tOp xMod (tVar 2) (tVar 1))))) tNext)
  (tSeq (tIfS (xLt (fun i j => .bl (decide (j ≤ i))) (xB K 1) (tCB (rLen K) (tCons (xB K 0) tNil))) (tRet (tOp xMod (xMixed (xB K 4) (xB K 3)) (tVar 1))) tNext)
  (tSeq (tAsg (tOp (rIx K) (xB K 0) (xB K 1)) (gName 3))
  (tSeq (tAsg (tOp xAdd (xB K 1) (xI 1)) (xSet 1))
  (tSeq (tIfS (xLt (fun i j => .bl (decide (i < j))) (tVar 3) (tOp (rI CPow fun i j => .int (i ^ j.toNat)) (xI 10) (xI 18))) (tRet (tOp xMod (xMixed (tVar 3) (xB K 3)) (tVar 1))) tNext)
  (tSeq (tAsg (tOp xDiv (tVar 3) (tVar 1)) (xSet 2)) (tRet (tOp xMod (tVar 3) (tVar 1)))))))))
abbrev spTake : Sp := spF K sp_take
variable {K} in
theorem xb_at {b : Addr} {σ : L2.St} {H : Hp} {xs : List V} {k : Int} {v : V} {Q : VK} (h0 : σ[0]? = some (some (.ref b))) (h : H b = some (.lst xs)) (hk : atI xs k = some v) (q : Q v H) : xB K k σ H Q :=
  ⟨_, h0, .inl ⟨b, xs, k, v, rfl, rfl, SqL.of h, hk, q⟩⟩
variable {K} in
theorem pure_taken (vs : List V) (H : Hp) (Q : VK) (E : XK) (h : spTake K vs H Q E) (N : List Str) (hN : N.length = 4) : t_taken K { nx := fun _ H' => Q .non H', rt := Q } (L2.start N vs) H := by
  obtain ⟨bx, G, as, R, Xn, w, r, ⟨n, rfl, h0, h1, hR⟩, kQ, _⟩ := h
  cases r with
  | cons r1 r2 =>
  cases r2 with
  | cons r2 r3 =>
  cases r3
  obtain ⟨z, hz, rfl⟩ := r1
  cases r2
  subst hz
  have e0 : L2.start N [.ref z.b, .int n] = [some (.ref z.b), some (.int n), none, none] := by
    unfold L2.start
    simp [hN, List.replicate]
  rw [e0]
  obtain ⟨_, ns, p, q, r, s, b1, b2, b3⟩ := w.b z rfl
  have B0 : BoxAt z G H ns p q r s := ⟨b1, b2, b3⟩
  have fin : ∀ {H' : Hp} (i : Int), _root_.Wx.Ext (some z) G H G H' → Wo (some z) G H' → Q (.int (i % n)) H' := fun {H'} i e w' => kQ _ G H' (.int (i % n)) e w' (.int _) (hR _ (Int.emod_nonneg _ (by omega)) (Int.emod_lt_of_pos _ h0))
  -- the turn counted
  refine xb_at rfl B0.at_ (show atI _ 3 = some (V.int r) from rfl) ?_
  refine ⟨r, 1, rfl, rfl, _, rfl, z.b, _, 3, 3, rfl, rfl, B0.at_, rfl, ?_⟩
  obtain ⟨e1, w1, B1⟩ := box_turn (q' := q) (r' := r + 1) (s' := s) w B0 b3
  -- what is left of a number
  refine xb_at rfl B1.at_ (show atI _ 2 = some (V.int q) from rfl) ?_
  refine ⟨q, 0, rfl, rfl, _, rfl, ?_⟩
  by_cases hq : 0 < q
  · rw [decide_eq_true hq]
    show (if true = true then _ else _)
    rw [if_pos rfl]
    refine xb_at rfl B1.at_ (show atI _ 2 = some (V.int q) from rfl) ?_
    refine ⟨_, rfl, _, rfl, q, n, rfl, rfl, ⟨h0, h1⟩, _, rfl, z.b, _, 2, 2, rfl, rfl, B1.at_, rfl, ?_⟩
    obtain ⟨e2, w2, B2⟩ := box_turn (q' := q / n) (r' := r + 1) (s' := s) w1 B1 b3
    exact ⟨_, rfl, _, rfl, q, n, rfl, rfl, h0, fin q (e1.trans e2) w2⟩
  rw [decide_eq_false hq]
  show (if false = true then _ else _)
  rw [if_neg Bool.false_ne_true]
  cases hn : B1.ns with
  | lst ga ra =>
  have ea := ra.ints
  subst ea
  have ha : (upd H z.b (.lst [.ref z.a, .int p, .int q, .int (r + 1), .int s])) z.a = some (.lst (ns.map V.int)) := w1.s _ _ ga
  refine xb_at rfl B1.at_ (show atI _ 1 = some (V.int p) from rfl) ?_
  refine xb_at rfl B1.at_ (show atI _ 0 = some (V.ref z.a) from rfl) ?_
  refine ⟨_, _, rfl, .inl ⟨_, SqL.of ha, rfl⟩, p, _, rfl, rfl, _, rfl, ?_⟩
  by_cases hp : (((ns.map V.int).length : Nat) : Int) ≤ p
  · rw [decide_eq_true hp]
    show (if true = true then _ else _)
    rw [if_pos rfl]
    refine xb_at rfl B1.at_ (show atI _ 4 = some (V.int s) from rfl) ?_
    refine xb_at rfl B1.at_ (show atI _ 3 = some (V.int (r + 1)) from rfl) ?_
    exact ⟨s, r + 1, rfl, fun i => ⟨_, rfl, i, n, rfl, rfl, h0, fin i e1 w1⟩⟩
  rw [decide_eq_false hp]
  show (if false = true then _ else _)
  rw [if_neg Bool.false_ne_true]
  have hp2 : p.toNat < ns.length := by simp at hp; omega
  refine xb_at rfl B1.at_ (show atI _ 0 = some (V.ref z.a) from rfl) ?_
  refine xb_at rfl B1.at_ (show atI _ 1 = some (V.int p) from rfl) ?_
  refine .inl ⟨z.a, _, p, .int ns[p.toNat], rfl, rfl, SqL.of ha, ?_, ?_⟩
  · unfold atI ixN
    rw [if_pos b3, if_pos (by simp; omega)]
    simp [hp2]
  refine xb_at rfl B1.at_ (show atI _ 1 = some (V.int p) from rfl) ?_
  refine ⟨p, 1, rfl, rfl, _, rfl, z.b, _, 1, 1, rfl, rfl, B1.at_, rfl, ?_⟩
  obtain ⟨e2, w2, B2⟩ := box_turn (p' := p + 1) (q' := q) (r' := r + 1) (s' := s) w1 B1 (by omega)
  refine ⟨_, rfl, 10, 18, rfl, rfl, ⟨by decide, by decide, by decide⟩, ns[p.toNat], _, rfl, rfl, _, rfl, ?_⟩
  by_cases hc : ns[p.toNat] < (10 : Int) ^ (18 : Int).toNat
  · rw [decide_eq_true hc]
    show (if true = true then _ else _)
    rw [if_pos rfl]
    refine ⟨_, rfl, ?_⟩
    refine xb_at rfl B2.at_ (show atI _ 3 = some (V.int (r + 1)) from rfl) ?_
    exact ⟨_, r + 1, rfl, fun i => ⟨_, rfl, i, n, rfl, rfl, h0, fin i (e1.trans e2) w2⟩⟩
  rw [decide_eq_false hc]
  show (if false = true then _ else _)
  rw [if_neg Bool.false_ne_true]
  obtain ⟨e3, w3, B3⟩ := box_turn (q' := ns[p.toNat] / n) (r' := r + 1) (s' := s) w2 B2 B2.pos
  refine ⟨_, rfl, _, rfl, _, n, rfl, rfl, ⟨h0, h1⟩, _, rfl, z.b, _, 2, 2, rfl, rfl, B2.at_, rfl, ?_⟩
  exact ⟨_, rfl, _, rfl, _, n, rfl, rfl, h0, fin _ (e1.trans (e2.trans e3)) w3⟩
end

/-! ### the law's own def: the box made, then the rest over data -/
def spLaw (K : PySem.W.Frag) : Sp := fun vs H Q _ => ∃ (a : Addr) (ns : List Int), vs = [.ref a] ∧ SqL K H a (ns.map V.int) ∧ ns.length ≤ 63 ∧ ∀ H', Q (.bl true) H'
def startLaw (n : Nat) : List En := .un :: .box :: List.replicate (n - 2) .un
theorem law_start {N : List Str} (hn : 2 ≤ N.length) {a : Addr} {H' : Hp} {c b : Addr} {s : Int} {ns : List Int} (hcb : c ≠ b) (hc : H' c = some (.lst (ns.map V.int))) (hb : H' b = some (.lst [.ref c, .int 0, .int 0, .int 0, .int s])) :
    SR (some ⟨b, c⟩) (upd (fun _ => none) c (.lst (ns.map V.int))) H' (upd (fun _ => none) c (.lst (ns.map V.int))) H' ((L2.start N [.ref a]).set 1 (some (.ref b))) (startLaw N.length) := by
  have es : (L2.start N [.ref a]).set 1 (some (.ref b)) = some (.ref a) :: some (.ref b) :: List.replicate (N.length - 2) none := by
    unfold L2.start
    obtain ⟨m, hm⟩ : ∃ m, N.length = m + 2 := ⟨N.length - 2, by omega⟩
    rw [hm]
    simp [List.replicate]
  have hs : Same (upd (fun _ => none) c (.lst (ns.map V.int))) H' := fun x o e => by
    by_cases h : x = c
    · rw [h, upd_same] at e; rw [h, ← e, hc]
    · rw [upd_ne h] at e; cases e
  have gb : (upd (fun _ => none) c (.lst (ns.map V.int)) : Hp) b = none := upd_ne (Ne.symm hcb)
  refine ⟨by rw [es]; simp [startLaw], Ext.refl, ⟨hs, fun z hz => ?_⟩, fun i en q => ?_, fun i j ds es p _ q1 _ _ _ => ?_⟩
  · cases hz
    exact ⟨gb, ns, 0, 0, 0, s, hb, .lst upd_same (rps_ints ns), by decide⟩
  · rw [es]
    match i, q with
    | 0, q => cases q; trivial
    | 1, q => cases q; exact ⟨_, rfl, rfl⟩
    | i + 2, q =>
      have q2 : (List.replicate (N.length - 2) En.un)[i]? = some en := q
      rw [List.eq_of_mem_replicate (List.mem_of_getElem? q2)]
      trivial
  · match i, q1 with
    | 0, q1 => cases q1
    | 1, q1 => cases q1
    | i + 2, q1 =>
      have q2 : (List.replicate (N.length - 2) En.un)[i]? = some (En.own ds) := q1
      have := List.eq_of_mem_replicate (List.mem_of_getElem? q2)
      cases this
section
variable {P : Program} {w : World} {K : PySem.W.Frag} {mg : Str → Option Value} {base : Heap} {x y : Str} {params : Arguments} {st : Stmt} {rest : List Stmt} {scope : Scope} {f : Addr} {fd : FuncData} {N : List Str} {k : Nat} {ds : DS}
theorem mkLaw (F : FunD K x x params (st :: rest) scope [] [] f fd) (S : FnScope N [y] scope) (hn : 2 ≤ N.length)
    (h1 : ∀ (cdv : Value) (A : Around) (outer : List Env) (s : Shared) (H : Hp) (E : XK), Room k (A.deeper (envOfC x scope s.heap.objs.size f cdv)) → PS (cxOf CX0 P w K mg base N x scope f cdv A outer s H E).nox st (tAsg (tCall (spBox K) [] E0 (tCons (tVar 0) tNil)) (gName 1)))
    (hb : ∀ (cdv : Value) (A : Around) (outer : List Env) (s : Shared) (H : Hp) (E : XK), Room k (A.deeper (envOfC x scope s.heap.objs.size f cdv)) → QSs (cxOf CX0 P w K mg base N x scope f cdv A outer s H E).nox WF rest ds)
    (pure : ds { nx := fun _ => False, rt := fun d => d = .bool true } (startLaw N.length)) : FnOk P w K mg base CX0 (k + 1) f fd [y] (spLaw K) :=
  F.ok S (fun vs H Q E ⟨_, _, e, _⟩ => by rw [e]; rfl) fun cdv A outer s H vs Q E hr ⟨a, ns, ev, hS, hl, hQ⟩ =>
  ⟨_, (pss_cons (h1 cdv A outer s H E hr) (hb cdv A outer s H E hr)).nox, by
    subst ev
    have e0 : (L2.start N [V.ref a])[0]? = some (some (.ref a)) := by
      unfold L2.start
      simp
    refine ⟨_, e0, a, ns, rfl, hS, hl, fun H' c b s hcb hc hb => ?_⟩
    refine ⟨⟨some ⟨b, c⟩, _, H', _, _⟩, _, law_start hn hcb hc hb, pure, ?_⟩
    exact ⟨fun _ _ _ _ _ f => f.elim, fun v G' H' d e w r h => by
      subst h
      cases r
      exact hQ _, fun _ _ _ _ _ _ _ _ _ _ _ f => f.elim, fun _ _ _ _ _ f => f.elim, fun _ _ _ _ _ f => f.elim, fun _ _ _ _ _ _ _ _ _ f => f.elim⟩⟩
end
theorem px {X : Cx} {a b : Expr} {pos : Pos} {ta tb : TE} (ha : PE X a ta) (hb : PE X b tb) (hs : PlainIx b := by exact fun _ _ => rfl) : PE X (.Subscript a b pos) (tOp (rIx X.K) ta tb) := pe_ix ix_seq ha hb hs
/-- two lists one behind the other: a new list of one's own -/
def dCat (da db : DE) : DF := fun E R Xn => da E (fun x => db E (fun y => ∃ xs ys, x = .list xs ∧ y = .list ys ∧ (xs ++ ys).length ≤ sizeLine ∧ R (xs ++ ys)) Xn) Xn
theorem f_cat {X : Cx} {W : WX} {pos : Pos} {a b : Expr} {da db : DE} (ha : QE X W a da) (hb : QE X W b db) : QF X W (.BinOp a .Add b pos) (dCat da db) :=
  pe_imp (pe_op op_cat ha hb) fun σ H Q ⟨P, R, Xn, S, h, k, kx⟩ =>
  ⟨P, _, Xn, S, h, fun v G1 H1 x e1 S1 r1 h1 => ⟨P.go G1, _, Xn, S1, h1, fun w G2 H2 y e2 S2 r2 ⟨ds, es, ex, ey, hl, hR⟩ => by
    subst ex ey
    have r1 := r1.up e2.g
    cases r1 with
    | @lst a xs ds h1 a1 =>
      cases r2 with
      | @lst b ys es h2 a2 =>
        have hl : xs.length + ys.length ≤ sizeLine := by
          rw [a1.length, a2.length, ← List.length_append]; exact hl
        refine ⟨a, b, xs, ys, rfl, rfl, S2.w.s _ _ h1, S2.w.s _ _ h2, hl, fun p hp => ?_⟩
        have en : Ext none G2 H2 G2 (upd H2 p (.lst (xs ++ ys))) := Ext.own hp
        have e := e1.trans e2
        exact k p _ _ _ _ (e.trans en.any) (S2.pure en (same_own S2.w.s hp)) (e.none_of hp) (S2.w.s.free hp) upd_same (a1.app a2) hR, kx⟩, kx⟩
end Wx

namespace Wx
open PySem PySem.Spec PyProof.Rows L2

/-! ### the readings, unfolded by simp -/
def asB (d : PyData) (R : Bool → Prop) : Prop := ∃ b, d = .bool b ∧ R b
def asI (d : PyData) (R : Int → Prop) : Prop := ∃ b, d = .int b ∧ R b
def asL (d : PyData) (R : List PyData → Prop) : Prop := ∃ b, d = .list b ∧ R b
def asQ (d : PyData) (R : List PyData → Prop) : Prop := ∃ b, seqD d = some b ∧ R b
def atE (E : List En) (i : Nat) (R : PyData → Prop) : Prop := ∃ d, E[i]? = some (.dat d) ∧ R d
@[simp] theorem asB_s {b : Bool} {R : Bool → Prop} : asB (.bool b) R = R b := propext ⟨fun ⟨_, e, h⟩ => by cases e; exact h, fun h => ⟨b, rfl, h⟩⟩
@[simp] theorem asI_s {b : Int} {R : Int → Prop} : asI (.int b) R = R b := propext ⟨fun ⟨_, e, h⟩ => by cases e; exact h, fun h => ⟨b, rfl, h⟩⟩
@[simp] theorem asL_s {b : List PyData} {R : List PyData → Prop} : asL (.list b) R = R b := propext ⟨fun ⟨_, e, h⟩ => by cases e; exact h, fun h => ⟨b, rfl, h⟩⟩
@[simp] theorem asQ_l {b : List PyData} {R : List PyData → Prop} : asQ (.list b) R = R b := propext ⟨fun ⟨_, e, h⟩ => by cases e; exact h, fun h => ⟨b, rfl, h⟩⟩
@[simp] theorem asQ_t {b : List PyData} {R : List PyData → Prop} : asQ (.tuple b) R = R b := propext ⟨fun ⟨_, e, h⟩ => by cases e; exact h, fun h => ⟨b, rfl, h⟩⟩
section
variable {i : Nat} {E : List En} {R : PyData → Prop} {Xn : Er → Prop} {d : PyData} {f g : F2} {da db dc de : DE} {dt du : DT} {RT : Bool → Prop} {dr : DA} {RA : List En → Prop} {df : DF} {RF : List PyData → Prop} {di : DI} {D : DEnds} {sa sb : DS} {d1 d2 : DO} {RO : Option Int → Prop}
@[simp] theorem dVar_s : dVar i E R Xn = ∃ d, E[i]? = some (.dat d) ∧ R d := rfl
@[simp] theorem dC_s : dC d E R Xn = R d := rfl
@[simp] theorem dOp_s : dOp f da db E R Xn = da E (fun x => db E (fun y => f x y R) Xn) Xn := rfl
@[simp] theorem dTB_s : dTB de E RT Xn = de E (fun d => asB d RT) Xn := rfl
@[simp] theorem dChain_s : dChain f g da db dc E R Xn = da E (fun x => db E (fun y => f x y fun z => asB z fun k => (k = true → dc E (fun w => g y w R) Xn) ∧ (k = false → R (.bool false))) Xn) Xn := rfl
@[simp] theorem dNeg_s : dNeg da E R Xn = da E (fun x => asI x fun i => R (.int (-i))) Xn := rfl
@[simp] theorem dAndT_s : dAndT dt du E RT Xn = dt E (fun c => (c = true → du E RT Xn) ∧ (c = false → RT false)) Xn := rfl
@[simp] theorem dOrT_s : dOrT dt du E RT Xn = dt E (fun c => (c = false → du E RT Xn) ∧ (c = true → RT true)) Xn := rfl
@[simp] theorem dNotT_s : dNotT dt E RT Xn = dt E (fun c => RT (!c)) Xn := rfl
@[simp] theorem dAndV_s : dAndV da db E R Xn = da E (fun x => asB x fun c => (c = true → db E R Xn) ∧ (c = false → R (.bool false))) Xn := rfl
@[simp] theorem dOrV_s : dOrV da db E R Xn = da E (fun x => asB x fun c => (c = false → db E R Xn) ∧ (c = true → R (.bool true))) Xn := rfl
@[simp] theorem dNotV_s : dNotV da E R Xn = da E (fun x => asB x fun c => R (.bool (!c))) Xn := rfl
@[simp] theorem dIf_s : dIf dt da db E R Xn = dt E (fun c => (c = true → da E R Xn) ∧ (c = false → db E R Xn)) Xn := rfl
@[simp] theorem dNil_s : dNil E RA Xn = RA [] := rfl
@[simp] theorem dCons_s : dCons de dr E RA Xn = de E (fun d => dr E (fun as => RA (.dat d :: as)) Xn) Xn := rfl
@[simp] theorem dBoxA_s : dBoxA i dr E RA Xn = (E[i]? = some .box ∧ dr E (fun as => RA (.box :: as)) Xn) := rfl
@[simp] theorem dFz_s : dFz df E R Xn = df E (fun ds => R (.list ds)) Xn := rfl
@[simp] theorem dIsi_s {T : String} : dIsi T de E R Xn = de E (fun d => R (.bool (isD T d))) Xn := rfl
@[simp] theorem oNone_s : oNone E RO Xn = RO none := rfl
@[simp] theorem oSome_s : oSome de E RO Xn = de E (fun d => asI d fun i => RO (some i)) Xn := rfl
@[simp] theorem dSl_s {k : PyData → Option Int → Option Int → (PyData → Prop) → Prop} : dSl k de d1 d2 E R Xn = de E (fun d => d1 E (fun lo => d2 E (fun hi => k d lo hi R) Xn) Xn) Xn := rfl
@[simp] theorem dSlF_s {k : PyData → Option Int → Option Int → (List PyData → Prop) → Prop} : dSlF k de d1 d2 E RF Xn = de E (fun d => d1 E (fun lo => d2 E (fun hi => k d lo hi RF) Xn) Xn) Xn := rfl
@[simp] theorem dBw_s : dBw i de E R Xn = ∃ ds, E[i]? = some (.own ds) ∧ de (E.set i (.dat (.list ds))) (fun d => noL d = true ∧ R d) (fun _ => False) := rfl
@[simp] theorem dBwT_s : dBwT i dt E RT Xn = ∃ ds, E[i]? = some (.own ds) ∧ dt (E.set i (.dat (.list ds))) RT (fun _ => False) := rfl
@[simp] theorem dBwF_s : dBwF i df E RF Xn = ∃ ds, E[i]? = some (.own ds) ∧ df (E.set i (.dat (.list ds))) (fun es => noLs es = true ∧ RF es) (fun _ => False) := rfl
@[simp] theorem dTru_s : dTru de E RT Xn = de E (fun d => small d ∧ RT (truD d)) Xn := rfl
@[simp] theorem dCall_s {sp : DSp} : dCall sp dr E R Xn = dr E (fun as => sp as R (fun _ => False)) Xn := rfl
@[simp] theorem dCallF_s {sp : DSpF} : dCallF sp dr E RF Xn = dr E (fun as => sp as RF (fun _ => False)) Xn := rfl
@[simp] theorem dCallX_s {sp : DSp} : dCallX sp dr E R Xn = dr E (fun as => sp as R Xn) Xn := rfl
@[simp] theorem dCallXF_s {sp : DSpF} : dCallXF sp dr E RF Xn = dr E (fun as => sp as RF Xn) Xn := rfl
@[simp] theorem iSeqD_s : iSeqD de E RF Xn = de E (fun d => asQ d RF) Xn := rfl
@[simp] theorem iRngD_s : iRngD da E RF Xn = da E (fun d => asI d fun j => -(2 ^ 62) ≤ j ∧ j < 2 ^ 62 ∧ RF (rngD 0 j.toNat)) Xn := rfl
@[simp] theorem iEnumD_s : iEnumD da E RF Xn = da E (fun d => asL d fun ds => RF (enumD ds)) Xn := rfl
@[simp] theorem iRevD_s : iRevD da E RF Xn = da E (fun d => asL d fun ds => RF ds.reverse) Xn := rfl
@[simp] theorem iZipD_s : iZipD da db E RF Xn = da E (fun d => db E (fun d' => ∃ ds es, d = .list ds ∧ d' = .list es ∧ RF (zipD ds es)) Xn) Xn := rfl
@[simp] theorem dLc_s {tg : Tgt} {vs : List Nat} : dLc di tg dt de vs E RF Xn = di E (fun items => lcGo tg dt de (wipeE E vs) RF items []) Xn := rfl
@[simp] theorem dYes_s : dYes E RT Xn = RT true := rfl
@[simp] theorem dNext_s : dNext D E = D.nx E := rfl
@[simp] theorem dSeq_s : dSeq sa sb D E = sa { D with nx := sb D } E := rfl
@[simp] theorem dSet_s : dSet i de D E = de E (fun d => D.nx (E.set i (.dat d))) (fun x => D.ex x E) := rfl
@[simp] theorem dSetT_s {t : Tgt} : dSetT t de D E = de E (fun d => ∃ E', tgSet t d E = some E' ∧ D.nx E') (fun x => D.ex x E) := rfl
@[simp] theorem dSetO_s : dSetO i df D E = df E (fun ds => D.nx (E.set i (.own ds))) (fun x => D.ex x E) := rfl
@[simp] theorem dDrop_s : dDrop de D E = de E (fun _ => D.nx E) (fun x => D.ex x E) := rfl
@[simp] theorem dRet_s : dRet de D E = de E D.rt (fun x => D.ex x E) := rfl
@[simp] theorem dRetF_s : dRetF df D E = df E D.ro (fun x => D.ex x E) := rfl
@[simp] theorem dRetN_s : dRetN D E = D.rt .none := rfl
@[simp] theorem dRetO_s : dRetO i D E = ∃ ds, E[i]? = some (.own ds) ∧ D.ro ds := rfl
@[simp] theorem dRetL_s : dRetL i D E = ∃ ds, E[i]? = some (.own ds) ∧ D.rt (.list ds) := rfl
@[simp] theorem dIfS_s : dIfS dt sa sb D E = dt E (fun c => (c = true → sa D E) ∧ (c = false → sb D E)) (fun x => D.ex x E) := rfl
@[simp] theorem dBreak_s : dBreak D E = D.bk E := rfl
@[simp] theorem dCont_s : dCont D E = D.ct E := rfl
@[simp] theorem dFor_s {t : Tgt} : dFor di t sa D E = di E (fun items => forGo t sa D items E) (fun x => D.ex x E) := rfl
@[simp] theorem dFrz_s : dFrz i sa D E = ∃ xs, E[i]? = some (.own xs) ∧ sa D (E.set i (.dat (.list xs))) := rfl
@[simp] theorem dApp_s : dApp i de D E = ∃ ds, E[i]? = some (.own ds) ∧ de E (fun d => ds.length < sizeLine ∧ D.nx (E.set i (.own (ds ++ [d])))) (fun x => D.ex x E) := rfl
@[simp] theorem dPut_s : dPut i da de D E = de E (fun d => ∃ ds, E[i]? = some (.own ds) ∧ da E (fun z => ∃ k j, z = .int k ∧ ixN ds.length k = some j ∧ D.nx (E.set i (.own (ds.set j d)))) (fun x => D.ex x E)) (fun x => D.ex x E) := rfl
@[simp] theorem dIns_s : dIns i da de D E = ∃ ds, E[i]? = some (.own ds) ∧ da E (fun z => de E (fun d => ∃ k, z = .int k ∧ ds.length < sizeLine ∧ 0 ≤ k ∧ k < 2 ^ 63 ∧ D.nx (E.set i (.own (ds.take k.toNat ++ [d] ++ ds.drop k.toNat)))) (fun x => D.ex x E)) (fun x => D.ex x E) := rfl
@[simp] theorem dRaise_s {n : Str} : dRaise n D E = D.ex (n, none) E := rfl
@[simp] theorem startE_s {n : Nat} {as : List En} : startE n as = as ++ List.replicate (n - as.length) .un := rfl
@[simp] theorem startLaw_s {n : Nat} : startLaw n = .un :: .box :: List.replicate (n - 2) .un := rfl
@[simp] theorem wipeE_n : wipeE E [] = E := rfl
@[simp] theorem wipeE_c {vs : List Nat} : wipeE E (i :: vs) = (wipeE E vs).set i .un := rfl
@[simp] theorem tgSet_nm : tgSet (.nm i) d E = some (E.set i (.dat d)) := rfl
@[simp] theorem tgSet_tp {is : List Nat} {ds : List PyData} : tgSet (.tp is) (.tuple ds) E = if is.length = ds.length then some (setAll is ds E) else none := rfl
@[simp] theorem setAll_n {ds : List PyData} : setAll [] ds E = E := by cases ds <;> rfl
@[simp] theorem setAll_c {is : List Nat} {ds : List PyData} : setAll (i :: is) (d :: ds) E = setAll is ds (E.set i (.dat d)) := rfl
end
/-! operators -/
section
variable {i j : Int} {b c : Bool} {x y : Str} {ds es : List PyData} {R : PyData → Prop} {RF : List PyData → Prop} {d e : PyData} {RO : Option Int → Prop}
@[simp] theorem fII_s {C : Int → Int → Prop} {g : Int → Int → PyData} : fII C g (.int i) (.int j) R = (C i j ∧ R (g i j)) := by
  apply propext
  exact ⟨fun ⟨_, _, e1, e2, h⟩ => by cases e1; cases e2; exact h, fun h => ⟨i, j, rfl, rfl, h⟩⟩
@[simp] theorem fAdd_i : fAdd (.int i) (.int j) R = R (.int (i + j)) := by
  apply propext
  exact ⟨fun ⟨_, e, _, h⟩ => by cases e; exact h, fun h => ⟨_, rfl, trivial, h⟩⟩
@[simp] theorem fAdd_l : fAdd (.list ds) (.list es) R = ((ds ++ es).length ≤ sizeLine ∧ R (.list (ds ++ es))) := by
  apply propext
  exact ⟨fun ⟨_, e, h⟩ => by cases e; exact h, fun h => ⟨_, rfl, h⟩⟩
@[simp] theorem fAdd_t : fAdd (.tuple ds) (.tuple es) R = ((ds ++ es).length ≤ sizeLine ∧ R (.tuple (ds ++ es))) := by
  apply propext
  exact ⟨fun ⟨_, e, h⟩ => by cases e; exact h, fun h => ⟨_, rfl, h⟩⟩
@[simp] theorem fAdd_s : fAdd (.str x) (.str y) R = ((x ++ y).length ≤ sizeLine ∧ R (.str (x ++ y))) := by
  apply propext
  exact ⟨fun ⟨_, e, h⟩ => by cases e; exact h, fun h => ⟨_, rfl, h⟩⟩
@[simp] theorem fSub_s : fSub (.int i) (.int j) R = R (.int (i - j)) := by unfold fSub; simp [CT]
@[simp] theorem fMul_s : fMul (.int i) (.int j) R = (CMul i j ∧ R (.int (i * j))) := by unfold fMul; simp
@[simp] theorem fDiv_s : fDiv (.int i) (.int j) R = (CDiv i j ∧ R (.int (i / j))) := by unfold fDiv; simp
@[simp] theorem fMod_s : fMod (.int i) (.int j) R = (0 < j ∧ R (.int (i % j))) := by unfold fMod; simp
@[simp] theorem fPow_s : fPow (.int i) (.int j) R = (CPow i j ∧ R (.int (i ^ j.toNat))) := by unfold fPow; simp
@[simp] theorem fLt_s : fLt (.int i) (.int j) R = R (.bool (decide (i < j))) := by unfold fLt; simp [CT]
@[simp] theorem fLe_s : fLe (.int i) (.int j) R = R (.bool (decide (i ≤ j))) := by unfold fLe; simp [CT]
@[simp] theorem fGt_s : fGt (.int i) (.int j) R = R (.bool (decide (j < i))) := by unfold fGt; simp [CT]
@[simp] theorem fGe_s : fGe (.int i) (.int j) R = R (.bool (decide (j ≤ i))) := by unfold fGe; simp [CT]
theorem sh_int : sh (.int i) = True := eq_true rfl
theorem sh_bool : sh (.bool b) = True := eq_true rfl
theorem sh_str : sh (.str x) = (PyData.strOk x = true) := by
  show (SeqAt.shaped (.str x) = true) = _
  unfold SeqAt.shaped
  rw [PyData.canLay0, PyData.depth]
  simp
theorem sh_none : sh .none := rfl
@[simp] theorem eqv_int : PyData.eqv (.int i) (.int j) = (i == j) := by rw [PyData.eqv]
@[simp] theorem eqv_str : PyData.eqv (.str x) (.str y) = (x == y) := by rw [PyData.eqv]
@[simp] theorem eqv_bool : PyData.eqv (.bool b) (.bool c) = (b == c) := by rw [PyData.eqv]
@[simp] theorem fEq_i : fEq (.int i) (.int j) R = R (.bool (decide (i = j))) := by
  have e : (i == j) = decide (i = j) := rfl
  unfold fEq
  rw [eqv_int, e, sh_int, sh_int]
  simp
@[simp] theorem fNe_i : fNe (.int i) (.int j) R = R (.bool (!decide (i = j))) := by
  have e : (i == j) = decide (i = j) := rfl
  unfold fNe
  rw [eqv_int, e, sh_int, sh_int]
  simp
@[simp] theorem fEq_b : fEq (.bool b) (.bool c) R = R (.bool (b == c)) := by
  unfold fEq
  rw [eqv_bool, sh_bool, sh_bool]
  simp
@[simp] theorem fNe_b : fNe (.bool b) (.bool c) R = R (.bool (!(b == c))) := by
  unfold fNe
  rw [eqv_bool, sh_bool, sh_bool]
  simp
@[simp] theorem fEq_st : fEq (.str x) (.str y) R = (PyData.strOk x = true ∧ PyData.strOk y = true ∧ R (.bool (x == y))) := by
  unfold fEq
  rw [eqv_str, sh_str, sh_str]
@[simp] theorem fNe_st : fNe (.str x) (.str y) R = (PyData.strOk x = true ∧ PyData.strOk y = true ∧ R (.bool (!(x == y)))) := by
  unfold fNe
  rw [eqv_str, sh_str, sh_str]
@[simp] theorem fIsN_s : fIsN d .none R = R (.bool (isN d)) := by unfold fIsN; simp
@[simp] theorem fNotN_s : fNotN d .none R = R (.bool (!isN d)) := by unfold fNotN; simp
@[simp] theorem isN_n : isN .none = true := rfl
@[simp] theorem isN_i : isN (.int i) = false := rfl
@[simp] theorem isN_l : isN (.list ds) = false := rfl
@[simp] theorem isN_t : isN (.tuple ds) = false := rfl
@[simp] theorem isN_b : isN (.bool b) = false := rfl
@[simp] theorem isN_s : isN (.str x) = false := rfl
@[simp] theorem fIx_l : fIx (.list ds) (.int i) R = (ds.length ≤ sizeLine ∧ ∃ z, atI ds i = some z ∧ R z) := by
  apply propext
  exact ⟨fun ⟨_, z, e, h1, h2, h3⟩ => by cases e; exact ⟨h1, z, h2, h3⟩, fun ⟨h1, z, h2, h3⟩ => ⟨i, z, rfl, h1, h2, h3⟩⟩
@[simp] theorem fIx_t : fIx (.tuple ds) (.int i) R = (ds.length ≤ sizeLine ∧ ∃ z, atI ds i = some z ∧ R z) := by
  apply propext
  exact ⟨fun ⟨_, z, e, h1, h2, h3⟩ => by cases e; exact ⟨h1, z, h2, h3⟩, fun ⟨h1, z, h2, h3⟩ => ⟨i, z, rfl, h1, h2, h3⟩⟩
@[simp] theorem fLen_l : fLen [.list ds] R = (ds.length ≤ sizeLine ∧ R (.int ds.length)) := by
  apply propext
  exact ⟨fun ⟨_, n, e, h1, h2, h3⟩ => by cases e; cases h1; exact ⟨h2, h3⟩, fun ⟨h1, h3⟩ => ⟨_, _, rfl, rfl, h1, h3⟩⟩
@[simp] theorem fLen_t : fLen [.tuple ds] R = (ds.length ≤ sizeLine ∧ R (.int ds.length)) := by
  apply propext
  exact ⟨fun ⟨_, n, e, h1, h2, h3⟩ => by cases e; cases h1; exact ⟨h2, h3⟩, fun ⟨h1, h3⟩ => ⟨_, _, rfl, rfl, h1, h3⟩⟩
@[simp] theorem fTuple_l : fTuple [.list ds] R = R (.tuple ds) := by
  apply propext
  exact ⟨fun ⟨_, n, e, h1, h2⟩ => by cases e; cases h1; exact h2, fun h1 => ⟨_, _, rfl, rfl, h1⟩⟩
@[simp] theorem fTuple_t : fTuple [.tuple ds] R = R (.tuple ds) := by
  apply propext
  exact ⟨fun ⟨_, n, e, h1, h2⟩ => by cases e; cases h1; exact h2, fun h1 => ⟨_, _, rfl, rfl, h1⟩⟩
@[simp] theorem fList_l : fList [.list ds] RF = RF ds := by
  apply propext
  exact ⟨fun ⟨_, n, e, h1, h2⟩ => by cases e; cases h1; exact h2, fun h1 => ⟨_, _, rfl, rfl, h1⟩⟩
@[simp] theorem fList_t : fList [.tuple ds] RF = RF ds := by
  apply propext
  exact ⟨fun ⟨_, n, e, h1, h2⟩ => by cases e; cases h1; exact h2, fun h1 => ⟨_, _, rfl, rfl, h1⟩⟩
@[simp] theorem fMin2_s : fMin2 [.int i, .int j] R = R (.int (if j < i then j else i)) := by
  apply propext
  exact ⟨fun ⟨_, _, e, h⟩ => by cases e; exact h, fun h => ⟨_, _, rfl, h⟩⟩
@[simp] theorem fMax2_s : fMax2 [.int i, .int j] R = R (.int (if j > i then j else i)) := by
  apply propext
  exact ⟨fun ⟨_, _, e, h⟩ => by cases e; exact h, fun h => ⟨_, _, rfl, h⟩⟩
theorem bools_map {α : Type} (xs : List α) (f : α → Bool) : xs.map (fun x => PyData.bool (f x)) = (xs.map f).map PyData.bool := by simp
theorem fAll_m {α : Type} {xs : List α} {f : α → Bool} (h : R (.bool (xs.all f))) : fAll [.list (xs.map fun x => PyData.bool (f x))] R := ⟨xs.map f, by rw [bools_map], by rw [List.all_map]; exact h⟩
theorem fAny_m {α : Type} {xs : List α} {f : α → Bool} (h : R (.bool (xs.any f))) : fAny [.list (xs.map fun x => PyData.bool (f x))] R := ⟨xs.map f, by rw [bools_map], by rw [List.any_map]; exact h⟩
@[simp] theorem fCutL_l {lo hi : Option Int} : fCutL (.list ds) lo hi RF = RF (cutD ds lo hi) := rfl
@[simp] theorem fCutA_l {lo hi : Option Int} : fCutA (.list ds) lo hi R = R (.list (cutD ds lo hi)) := rfl
@[simp] theorem fCutA_t {lo hi : Option Int} : fCutA (.tuple ds) lo hi R = R (.tuple (cutD ds lo hi)) := rfl
@[simp] theorem fCut_t {lo hi : Option Int} : fCut (.tuple ds) lo hi R = R (.tuple (cutD ds lo hi)) := rfl
@[simp] theorem isD_int_bool : isD "int" (.bool b) = true := by simp [isD, isS, tyD]
@[simp] theorem isD_int_int : isD "int" (.int i) = true := by simp [isD, isS, tyD]
@[simp] theorem isD_int_str : isD "int" (.str x) = false := by simp [isD, isS, tyD]
@[simp] theorem isD_int_list : isD "int" (.list ds) = false := by simp [isD, isS, tyD]
@[simp] theorem isD_int_tuple : isD "int" (.tuple ds) = false := by simp [isD, isS, tyD]
@[simp] theorem isD_int_none : isD "int" .none = false := by simp [isD, isS, tyD]
@[simp] theorem isD_bool_bool : isD "bool" (.bool b) = true := by simp [isD, isS, tyD]
@[simp] theorem isD_bool_int : isD "bool" (.int i) = false := by simp [isD, isS, tyD]
@[simp] theorem isD_bool_str : isD "bool" (.str x) = false := by simp [isD, isS, tyD]
@[simp] theorem isD_bool_list : isD "bool" (.list ds) = false := by simp [isD, isS, tyD]
@[simp] theorem isD_bool_tuple : isD "bool" (.tuple ds) = false := by simp [isD, isS, tyD]
@[simp] theorem isD_bool_none : isD "bool" .none = false := by simp [isD, isS, tyD]
@[simp] theorem isD_str_bool : isD "str" (.bool b) = false := by simp [isD, isS, tyD]
@[simp] theorem isD_str_int : isD "str" (.int i) = false := by simp [isD, isS, tyD]
@[simp] theorem isD_str_str : isD "str" (.str x) = true := by simp [isD, isS, tyD]
@[simp] theorem isD_str_list : isD "str" (.list ds) = false := by simp [isD, isS, tyD]
@[simp] theorem isD_str_tuple : isD "str" (.tuple ds) = false := by simp [isD, isS, tyD]
@[simp] theorem isD_str_none : isD "str" .none = false := by simp [isD, isS, tyD]
@[simp] theorem isD_list_bool : isD "list" (.bool b) = false := by simp [isD, isS, tyD]
@[simp] theorem isD_list_int : isD "list" (.int i) = false := by simp [isD, isS, tyD]
@[simp] theorem isD_list_str : isD "list" (.str x) = false := by simp [isD, isS, tyD]
@[simp] theorem isD_list_list : isD "list" (.list ds) = true := by simp [isD, isS, tyD]
@[simp] theorem isD_list_tuple : isD "list" (.tuple ds) = false := by simp [isD, isS, tyD]
@[simp] theorem isD_list_none : isD "list" .none = false := by simp [isD, isS, tyD]
@[simp] theorem isD_tuple_bool : isD "tuple" (.bool b) = false := by simp [isD, isS, tyD]
@[simp] theorem isD_tuple_int : isD "tuple" (.int i) = false := by simp [isD, isS, tyD]
@[simp] theorem isD_tuple_str : isD "tuple" (.str x) = false := by simp [isD, isS, tyD]
@[simp] theorem isD_tuple_list : isD "tuple" (.list ds) = false := by simp [isD, isS, tyD]
@[simp] theorem isD_tuple_tuple : isD "tuple" (.tuple ds) = true := by simp [isD, isS, tyD]
@[simp] theorem isD_tuple_none : isD "tuple" .none = false := by simp [isD, isS, tyD]
@[simp] theorem small_i : small (.int i) = True := rfl
@[simp] theorem small_b : small (.bool b) = True := rfl
@[simp] theorem small_n : small .none = True := rfl
@[simp] theorem small_l : small (.list ds) = (ds.length ≤ sizeLine) := rfl
@[simp] theorem small_t : small (.tuple ds) = (ds.length ≤ sizeLine) := rfl
@[simp] theorem small_s : small (.str x) = (x.length ≤ sizeLine) := rfl
@[simp] theorem truD_b : truD (.bool b) = b := rfl
@[simp] theorem truD_n : truD .none = false := rfl
@[simp] theorem truD_i : truD (.int i) = (i != 0) := rfl
@[simp] theorem truD_l : truD (.list ds) = !ds.isEmpty := rfl
@[simp] theorem truD_t : truD (.tuple ds) = !ds.isEmpty := rfl
@[simp] theorem seqD_l : seqD (.list ds) = some ds := rfl
@[simp] theorem seqD_t : seqD (.tuple ds) = some ds := rfl
@[simp] theorem noL_i : noL (.int i) = true := rfl
@[simp] theorem noL_b : noL (.bool b) = true := rfl
@[simp] theorem noL_n : noL .none = true := rfl
@[simp] theorem noL_s : noL (.str x) = true := rfl
@[simp] theorem noL_t : noL (.tuple ds) = noLs ds := rfl
@[simp] theorem noLs_n : noLs [] = true := rfl
@[simp] theorem noLs_c : noLs (d :: ds) = (noL d && noLs ds) := rfl
theorem noLs_all : ∀ {ds : List PyData}, (∀ d ∈ ds, noL d = true) → noLs ds = true
  | [], _ => rfl
  | d :: ds, h => by rw [noLs_c, h d (by simp), noLs_all fun d hd => h d (by simp [hd])]; rfl
end
section
variable {dr : DA} {E : List En} {R : PyData → Prop} {RF : List PyData → Prop} {Xn : Er → Prop} {f : FC} {g : FCF}
/-- a display's, a built-in's arguments: data -/
def asD (as : List En) (Q : List PyData → Prop) : Prop := ∃ ds, as = ds.map .dat ∧ Q ds
@[simp] theorem asD_n {Q : List PyData → Prop} : asD [] Q = Q [] := by
  apply propext
  exact ⟨fun ⟨ds, e, q⟩ => by cases ds with
    | nil => exact q
    | cons => simp at e, fun q => ⟨[], rfl, q⟩⟩
@[simp] theorem asD_c {d : PyData} {as : List En} {Q : List PyData → Prop} : asD (.dat d :: as) Q = asD as fun ds => Q (d :: ds) := by
  apply propext
  exact ⟨fun ⟨ds, e, q⟩ => by cases ds with
    | nil => simp at e
    | cons d' ds => simp at e; obtain ⟨e1, e2⟩ := e; subst e1; exact ⟨ds, e2, q⟩, fun ⟨ds, e, q⟩ => ⟨d :: ds, by rw [e]; rfl, q⟩⟩
@[simp] theorem dTup_s : dTup dr E R Xn = dr E (fun as => asD as fun ds => ds.length ≤ sizeLine ∧ R (.tuple ds)) Xn := rfl
@[simp] theorem dLst_s : dLst dr E RF Xn = dr E (fun as => asD as fun ds => ds.length ≤ sizeLine ∧ RF ds) Xn := rfl
@[simp] theorem dCB_s : dCB f dr E R Xn = dr E (fun as => asD as fun ds => f ds R) Xn := rfl
@[simp] theorem dCBF_s : dCBF g dr E RF Xn = dr E (fun as => asD as fun ds => g ds RF) Xn := rfl
end

/-! ### comprehensions, loops -/
theorem sizeL : sizeLine = 16777216 := rfl
theorem lc_go {α : Type} (gx : α → PyData) (p : α → Bool) (f : α → PyData) {tg : Tgt} {dt : DT} {de : DE} {E : List En} {R : List PyData → Prop} : ∀ (xs : List α) (acc : List PyData), acc.length + xs.length ≤ sizeLine →
    (∀ x ∈ xs, ∃ E', tgSet tg (gx x) E = some E' ∧ (∀ Q : Bool → Prop, Q (p x) → dt E' Q (fun _ => False)) ∧ (p x = true → ∀ Q : PyData → Prop, Q (f x) → de E' Q (fun _ => False))) →
    R (acc ++ (xs.filter p).map f) → lcGo tg dt de E R (xs.map gx) acc
  | [], acc, _, _, hR => by
    show R acc
    simpa using hR
  | x :: xs, acc, hl, h, hR => by
    obtain ⟨E', h1, h2, h3⟩ := h x (by simp)
    have hl' : acc.length + xs.length + 1 ≤ sizeLine := by simpa [Nat.add_assoc] using hl
    have rest : ∀ y ∈ xs, _ := fun y hy => h y (by simp [hy])
    refine ⟨E', h1, h2 _ ⟨fun hp => h3 hp _ ⟨by omega, ?_⟩, fun hp => ?_⟩⟩
    · refine lc_go gx p f xs _ (by simp; omega) rest ?_
      simpa [List.filter_cons, hp, List.append_assoc] using hR
    · refine lc_go gx p f xs _ (by omega) rest ?_
      simpa [List.filter_cons, hp] using hR
theorem lc_map {α : Type} (gx : α → PyData) (f : α → PyData) {tg : Tgt} {de : DE} {E : List En} {R : List PyData → Prop} (xs : List α) (hl : xs.length ≤ sizeLine)
    (h : ∀ x ∈ xs, ∃ E', tgSet tg (gx x) E = some E' ∧ ∀ Q : PyData → Prop, Q (f x) → de E' Q (fun _ => False)) (hR : R (xs.map f)) : lcGo tg dYes de E R (xs.map gx) [] :=
  lc_go gx (fun _ => true) f xs [] (by simpa using hl) (fun x hx => by
    obtain ⟨E', h1, h2⟩ := h x hx
    exact ⟨E', h1, fun Q q => q, fun _ => h2⟩) (by rw [List.filter_eq_self.mpr (by simp)]; exact hR)
theorem lc_filter {α : Type} (gx : α → PyData) (p : α → Bool) (f : α → PyData) {tg : Tgt} {dt : DT} {de : DE} {E : List En} {R : List PyData → Prop} (xs : List α) (hl : xs.length ≤ sizeLine)
    (h : ∀ x ∈ xs, ∃ E', tgSet tg (gx x) E = some E' ∧ (∀ Q : Bool → Prop, Q (p x) → dt E' Q (fun _ => False)) ∧ (p x = true → ∀ Q : PyData → Prop, Q (f x) → de E' Q (fun _ => False))) (hR : R ((xs.filter p).map f)) : lcGo tg dt de E R (xs.map gx) [] :=
  lc_go gx p f xs [] (by simpa using hl) h (by simpa using hR)
theorem for_inv {t : Tgt} {body : DS} {R : DEnds} (Inv : List PyData → List En → Prop) (hnil : ∀ E, Inv [] E → R.nx E)
    (hcons : ∀ x r E, Inv (x :: r) E → ∃ E', tgSet t x E = some E' ∧ ∀ N : List En → Prop, (∀ E, Inv r E → N E) → body { R with nx := N, ct := N, bk := R.nx } E') :
    ∀ (items : List PyData) (E : List En), Inv items E → forGo t body R items E
  | [], E, h => hnil E h
  | x :: r, E, h => by
    obtain ⟨E', h1, h2⟩ := hcons x r E h
    exact ⟨E', h1, h2 _ fun E h => for_inv Inv hnil hcons r E h⟩
theorem rng_map (n : Nat) : rngD 0 n = (List.range n).map fun i => .int (i : Nat) := by
  unfold rngD
  simp

/-! ### data that can be compared -/
def Lay (n : Nat) (d : PyData) : Prop := d.canLay0 = true ∧ d.depth ≤ n
def LayAll (n : Nat) (ds : List PyData) : Prop := PyData.canLayAll0 ds = true ∧ PyData.depthAll ds ≤ n
theorem Lay.sh {n : Nat} {d : PyData} (h : Lay n d) (hn : n ≤ 64) : sh d := by
  unfold Wx.sh SeqAt.shaped
  rw [h.1, decide_eq_true (Nat.le_trans h.2 hn)]
  rfl

theorem lay_int {n : Nat} {i : Int} : Lay n (.int i) := ⟨by rw [PyData.canLay0], by rw [PyData.depth]; omega⟩
theorem lay_bool {n : Nat} {i : Bool} : Lay n (.bool i) := ⟨by rw [PyData.canLay0], by rw [PyData.depth]; omega⟩
theorem lay_none {n : Nat} : Lay n .none := ⟨by rw [PyData.canLay0], by rw [PyData.depth]; omega⟩
theorem lay_str {n : Nat} {i : Str} (h : PyData.strOk i = true) : Lay n (.str i) := ⟨by rw [PyData.canLay0]; exact h, by rw [PyData.depth]; omega⟩
theorem lay_nil {n : Nat} : LayAll n [] := ⟨by rw [PyData.canLayAll0], by rw [PyData.depthAll]; omega⟩
theorem lay_cons {n : Nat} {d : PyData} {ds : List PyData} (h : Lay n d) (hs : LayAll n ds) : LayAll n (d :: ds) := ⟨by rw [PyData.canLayAll0, h.1, hs.1]; rfl, by rw [PyData.depthAll]; exact Nat.max_le.mpr ⟨h.2, hs.2⟩⟩
theorem lay_list {n : Nat} {ds : List PyData} (h : LayAll n ds) : Lay (n + 1) (.list ds) := ⟨by rw [PyData.canLay0]; exact h.1, by rw [PyData.depth]; have := h.2; omega⟩
theorem lay_tup {n : Nat} {ds : List PyData} (h : LayAll n ds) : Lay (n + 1) (.tuple ds) := ⟨by rw [PyData.canLay0]; exact h.1, by rw [PyData.depth]; have := h.2; omega⟩
theorem lay_map {α : Type} {n : Nat} {f : α → PyData} : ∀ {xs : List α}, (∀ x ∈ xs, Lay n (f x)) → LayAll n (xs.map f)
  | [], _ => lay_nil
  | x :: xs, h => lay_cons (h x (by simp)) (lay_map fun y hy => h y (by simp [hy]))

/-! ### what equality tells of data made alike -/
/-- an encoding that equality sees through -/
structure Enc {α : Type} [DecidableEq α] (f : α → PyData) : Prop where
  eq : ∀ x y, PyData.eqv (f x) (f y) = decide (x = y)
theorem enc_int : Enc PyData.int := ⟨fun x y => by rw [eqv_int]; rfl⟩
theorem enc_bool : Enc PyData.bool := ⟨fun x y => by rw [eqv_bool]; cases x <;> cases y <;> rfl⟩
theorem eqvAll_map {α : Type} [DecidableEq α] {f : α → PyData} (h : Enc f) : ∀ xs ys : List α, PyData.eqvAll (xs.map f) (ys.map f) = decide (xs = ys)
  | [], [] => by rw [List.map_nil, PyData.eqvAll]; rfl
  | [], y :: ys => by rw [List.map_nil, List.map_cons, PyData.eqvAll]; rfl
  | x :: xs, [] => by rw [List.map_nil, List.map_cons, PyData.eqvAll]; rfl
  | x :: xs, y :: ys => by
    rw [List.map_cons, List.map_cons, PyData.eqvAll, h.eq, eqvAll_map h xs ys, Bool.eq_iff_iff]
    simp
theorem enc_list {α : Type} [DecidableEq α] {f : α → PyData} (h : Enc f) : Enc fun xs : List α => PyData.list (xs.map f) := ⟨fun x y => by rw [PyData.eqv, eqvAll_map h]⟩
theorem enc_tup {α : Type} [DecidableEq α] {f : α → PyData} (h : Enc f) : Enc fun xs : List α => PyData.tuple (xs.map f) := ⟨fun x y => by rw [PyData.eqv, eqvAll_map h]⟩
/-- shades; a cell: its stain, its wax, its wish; a bolt -/
abbrev dP (p : List Int) : PyData := .tuple (p.map .int)
structure Cell where
  st : List Int
  wx : Bool
  ws : List Int
deriving DecidableEq
abbrev dC1 (c : Cell) : PyData := .tuple [dP c.st, .bool c.wx, dP c.ws]
abbrev dB (b : List Cell) : PyData := .list (b.map dC1)
theorem enc_dP : Enc dP := enc_tup enc_int
theorem enc_dC1 : Enc dC1 := ⟨fun x y => by
  obtain ⟨a, b, c⟩ := x
  obtain ⟨a', b', c'⟩ := y
  show PyData.eqv (.tuple [dP a, .bool b, dP c]) (.tuple [dP a', .bool b', dP c']) = _
  rw [PyData.eqv, PyData.eqvAll, PyData.eqvAll, PyData.eqvAll, PyData.eqvAll, enc_dP.eq, enc_dP.eq, enc_bool.eq, Bool.eq_iff_iff]
  simp⟩
theorem enc_dB : Enc dB := enc_list enc_dC1
theorem enc_ints : Enc fun xs : List Int => PyData.list (xs.map .int) := enc_list enc_int
theorem lay_dP {p : List Int} {n : Nat} : Lay (n + 1) (dP p) := lay_tup (lay_map fun _ _ => lay_int)
theorem lay_dC1 {c : Cell} {n : Nat} : Lay (n + 2) (dC1 c) := lay_tup (lay_cons lay_dP (lay_cons lay_bool (lay_cons lay_dP lay_nil)))
theorem lay_dB {b : List Cell} {n : Nat} : Lay (n + 3) (dB b) := lay_list (lay_map fun _ _ => lay_dC1)
theorem lay_ints {b : List Int} {n : Nat} : Lay (n + 1) (.list (b.map .int)) := lay_list (lay_map fun _ _ => lay_int)
@[simp] theorem sh_dP {p : List Int} : sh (dP p) = True := eq_true ((lay_dP (n := 0)).sh (by decide))
@[simp] theorem sh_dC1 {p : Cell} : sh (dC1 p) = True := eq_true ((lay_dC1 (n := 0)).sh (by decide))
@[simp] theorem sh_dB {p : List Cell} : sh (dB p) = True := eq_true ((lay_dB (n := 0)).sh (by decide))
@[simp] theorem sh_ints {p : List Int} : sh (.list (p.map .int)) = True := eq_true ((lay_ints (n := 0)).sh (by decide))
theorem fEq_enc {α : Type} [DecidableEq α] {f : α → PyData} (h : Enc f) {x y : α} {R : PyData → Prop} (hx : sh (f x) = True) (hy : sh (f y) = True) : fEq (f x) (f y) R = R (.bool (decide (x = y))) := by
  unfold fEq
  rw [hx, hy, h.eq]
  simp
theorem fNe_enc {α : Type} [DecidableEq α] {f : α → PyData} (h : Enc f) {x y : α} {R : PyData → Prop} (hx : sh (f x) = True) (hy : sh (f y) = True) : fNe (f x) (f y) R = R (.bool (!decide (x = y))) := by
  unfold fNe
  rw [hx, hy, h.eq]
  simp
@[simp] theorem fEq_P {p q : List Int} {R : PyData → Prop} : fEq (dP p) (dP q) R = R (.bool (decide (p = q))) := fEq_enc enc_dP sh_dP sh_dP
@[simp] theorem fNe_P {p q : List Int} {R : PyData → Prop} : fNe (dP p) (dP q) R = R (.bool (!decide (p = q))) := fNe_enc enc_dP sh_dP sh_dP
@[simp] theorem fEq_B {p q : List Cell} {R : PyData → Prop} : fEq (dB p) (dB q) R = R (.bool (decide (p = q))) := fEq_enc enc_dB sh_dB sh_dB
@[simp] theorem fNe_B {p q : List Cell} {R : PyData → Prop} : fNe (dB p) (dB q) R = R (.bool (!decide (p = q))) := fNe_enc enc_dB sh_dB sh_dB
@[simp] theorem fEq_C {p q : Cell} {R : PyData → Prop} : fEq (dC1 p) (dC1 q) R = R (.bool (decide (p = q))) := fEq_enc enc_dC1 sh_dC1 sh_dC1
@[simp] theorem fEq_I {p q : List Int} {R : PyData → Prop} : fEq (.list (p.map .int)) (.list (q.map .int)) R = R (.bool (decide (p = q))) := fEq_enc enc_ints sh_ints sh_ints
@[simp] theorem fNe_I {p q : List Int} {R : PyData → Prop} : fNe (.list (p.map .int)) (.list (q.map .int)) R = R (.bool (!decide (p = q))) := fNe_enc enc_ints sh_ints sh_ints
/-- an item of what was made alike -/
theorem atI_map {α β : Type} {f : α → β} {xs : List α} {i : Nat} (h : i < xs.length) : atI (xs.map f) (i : Int) = some (f xs[i]) := by
  unfold atI ixN
  rw [if_pos (by omega), if_pos (by simp; omega)]
  simp [h]
@[simp] theorem atI_0 {α : Type} {x : α} {xs : List α} : atI (x :: xs) 0 = some x := by
  unfold atI ixN
  rw [if_pos (by omega), if_pos (by simp only [List.length_cons]; omega)]
  rfl
@[simp] theorem atI_1 {α : Type} {x y : α} {xs : List α} : atI (x :: y :: xs) 1 = some y := by
  unfold atI ixN
  rw [if_pos (by omega), if_pos (by simp only [List.length_cons]; omega)]
  rfl
@[simp] theorem atI_2 {α : Type} {x y z : α} {xs : List α} : atI (x :: y :: z :: xs) 2 = some z := by
  unfold atI ixN
  rw [if_pos (by omega), if_pos (by simp only [List.length_cons]; omega)]
  rfl
end Wx

namespace Wx
open PySem PySem.Spec PyProof.Rows L2
@[simp] theorem fInt_b {b : Bool} {R : PyData → Prop} : fInt [.bool b] R = R (.int (if b then 1 else 0)) := by
  apply propext
  constructor
  · rintro (⟨i, e, h⟩ | ⟨c, e, h⟩ | ⟨a, n, e, _⟩)
    · cases e
    · cases e; exact h
    · cases e
  · exact fun h => .inr (.inl ⟨b, rfl, h⟩)
@[simp] theorem fInt_i {i : Int} {R : PyData → Prop} : fInt [.int i] R = R (.int i) := by
  apply propext
  constructor
  · rintro (⟨i, e, h⟩ | ⟨c, e, h⟩ | ⟨a, n, e, _⟩)
    · cases e; exact h
    · cases e
    · cases e
  · exact fun h => .inl ⟨i, rfl, h⟩
/-- a comprehension, whatever its parts draw -/
theorem lc_inv {tg : Tgt} {dt : DT} {de : DE} {E : List En} {R : List PyData → Prop} (Inv : List PyData → List PyData → Prop) (hnil : ∀ acc, Inv [] acc → R acc)
    (hcons : ∀ x r acc, Inv (x :: r) acc → ∃ E', tgSet tg x E = some E' ∧ ∀ N : List PyData → Prop, (∀ acc', Inv r acc' → N acc') → dt E' (fun b => (b = true → de E' (fun y => acc.length < sizeLine ∧ N (acc ++ [y])) (fun _ => False)) ∧ (b = false → N acc)) (fun _ => False)) :
    ∀ (items acc : List PyData), Inv items acc → lcGo tg dt de E R items acc
  | [], acc, h => hnil acc h
  | x :: r, acc, h => by
    obtain ⟨E', h1, h2⟩ := hcons x r acc h
    exact ⟨E', h1, h2 _ fun acc' h => lc_inv Inv hnil hcons r acc' h⟩
/-- a number of draws, one after another: anything that Ok allows -/
theorem lc_draw {α β : Type} (gx : α → PyData) (en : β → PyData) (Ok : β → Prop) {tg : Tgt} {de : DE} {E : List En} {R : List PyData → Prop} (xs : List α) (hl : xs.length ≤ sizeLine)
    (h : ∀ x ∈ xs, ∃ E', tgSet tg (gx x) E = some E' ∧ ∀ Q : PyData → Prop, (∀ y, Ok y → Q (en y)) → de E' Q (fun _ => False)) (hR : ∀ ys : List β, ys.length = xs.length → (∀ y ∈ ys, Ok y) → R (ys.map en)) : lcGo tg dYes de E R (xs.map gx) [] := by
  refine lc_inv (fun items acc => ∃ (r : List α) (ys : List β), items = r.map gx ∧ acc = ys.map en ∧ ys.length + r.length = xs.length ∧ (∀ x ∈ r, x ∈ xs) ∧ ∀ y ∈ ys, Ok y) ?_ ?_ _ _ ⟨xs, [], rfl, rfl, by simp, fun _ h => h, by simp⟩
  · rintro acc ⟨r, ys, e, rfl, hn, _, hy⟩
    cases r with
    | cons => simp at e
    | nil => exact hR ys (by simpa using hn) hy
  · rintro x r acc ⟨r', ys, e, rfl, hn, hx, hy⟩
    cases r' with
    | nil => simp at e
    | cons a r' =>
      simp at e
      obtain ⟨rfl, rfl⟩ := e
      obtain ⟨E', h1, h2⟩ := h a (hx a (by simp))
      simp at hn
      refine ⟨E', h1, fun N hN => ⟨fun _ => h2 _ fun y hy1 => ⟨by simp; omega, hN _ ⟨r', ys ++ [y], rfl, by simp, by simp; omega, fun x h => hx x (by simp [h]), fun z hz => ?_⟩⟩, fun f => by cases f⟩⟩
      rcases List.mem_append.mp hz with h | h
      · exact hy z h
      · simp at h; subst h; exact hy1
/-- the last put anew -/
theorem ixN_last {n : Nat} (h : 0 < n) : ixN n (-1) = some (n - 1) := by
  unfold ixN
  rw [if_neg (by omega), if_pos (by omega)]
  congr 1
  omega
@[simp] theorem take_s {n : Int} {R : PyData → Prop} {Xn : Er → Prop} : sp_take [.box, .dat (.int n)] R Xn = (0 < n ∧ n < 1073741824 ∧ ∀ i, 0 ≤ i → i < n → R (.int i)) := by
  apply propext
  constructor
  · rintro ⟨m, e, h⟩
    cases e
    exact h
  · exact fun h => ⟨n, rfl, h⟩
def asCat (x y : PyData) (R : List PyData → Prop) : Prop := ∃ xs ys, x = .list xs ∧ y = .list ys ∧ (xs ++ ys).length ≤ sizeLine ∧ R (xs ++ ys)
@[simp] theorem asCat_s {xs ys : List PyData} {R : List PyData → Prop} : asCat (.list xs) (.list ys) R = ((xs ++ ys).length ≤ sizeLine ∧ R (xs ++ ys)) := propext ⟨fun ⟨_, _, e1, e2, h⟩ => by cases e1; cases e2; exact h, fun h => ⟨_, _, rfl, rfl, h⟩⟩
@[simp] theorem dCat_s {da db : DE} {E : List En} {R : List PyData → Prop} {Xn : Er → Prop} : dCat da db E R Xn = da E (fun x => db E (fun y => asCat x y R) Xn) Xn := rfl
end Wx

namespace Wx
open PySem PySem.Spec PyProof.Rows L2
/-! ### whole numbers from 0, as data -/
abbrev natI (n : Nat) : PyData := .int n
abbrev dN (xs : List Nat) : PyData := .list (xs.map natI)
theorem enc_nat : Enc natI := ⟨fun x y => by
  show PyData.eqv (.int x) (.int y) = _
  rw [eqv_int, Bool.eq_iff_iff]
  simp
  omega⟩
theorem enc_dN : Enc dN := enc_list enc_nat
theorem lay_dN {b : List Nat} {n : Nat} : Lay (n + 1) (dN b) := lay_list (lay_map fun _ _ => lay_int)
theorem sh_dN {p : List Nat} : sh (dN p) = True := eq_true ((lay_dN (n := 0)).sh (by decide))
@[simp] theorem fEq_N {p q : List Nat} {R : PyData → Prop} : fEq (.list (p.map fun n : Nat => .int n)) (.list (q.map fun n : Nat => .int n)) R = R (.bool (decide (p = q))) := fEq_enc enc_dN sh_dN sh_dN
@[simp] theorem fNe_N {p q : List Nat} {R : PyData → Prop} : fNe (.list (p.map fun n : Nat => .int n)) (.list (q.map fun n : Nat => .int n)) R = R (.bool (!decide (p = q))) := fNe_enc enc_dN sh_dN sh_dN
@[simp] theorem fNe_N0 {p : List Nat} {R : PyData → Prop} : fNe (.list (p.map fun n : Nat => .int n)) (.list []) R = R (.bool (!decide (p = []))) := fNe_N (q := [])
@[simp] theorem fEq_N0 {p : List Nat} {R : PyData → Prop} : fEq (.list (p.map fun n : Nat => .int n)) (.list []) R = R (.bool (decide (p = []))) := fEq_N (q := [])
@[simp] theorem fNe_00 {R : PyData → Prop} : fNe (.list []) (.list []) R = R (.bool false) := by
  have := fNe_N (p := []) (q := []) (R := R)
  simpa using this
@[simp] theorem fEq_00 {R : PyData → Prop} : fEq (.list []) (.list []) R = R (.bool true) := by
  have := fEq_N (p := []) (q := []) (R := R)
  simpa using this
/-! ### lacking, needed -/
def sd (p : List Int) (d : Nat) : Int := (p[d]?).getD 0
theorem atI_sd {p : List Int} {d : Nat} (h : d < p.length) : atI (p.map PyData.int) (d : Int) = some (.int (sd p d)) := by
  rw [atI_map h]
  simp [sd, h]
abbrev c0 : Cell := ⟨[], false, []⟩
def lacksC (c : Cell) (d : Nat) : Bool := decide (sd c.st d < sd c.ws d)
def cellAt (b : List Cell) (i : Nat) : Cell := (b[i]?).getD c0
theorem atI_cell {b : List Cell} {i : Nat} (h : i < b.length) : atI (b.map dC1) (i : Int) = some (dC1 (cellAt b i)) := by
  rw [atI_map h]
  simp [cellAt, h]
theorem cellAt_mem {b : List Cell} {i : Nat} (h : i < b.length) : cellAt b i ∈ b := by
  simp [cellAt, h]
def lackL (b : List Cell) (d : Nat) : List Nat := (List.range b.length).filter fun i => lacksC (cellAt b i) d
def potsB : List Cell → Nat
  | [] => 0
  | c :: _ => c.st.length
def isNeeded (b : List Cell) (d : Nat) : Bool := b.any fun c => lacksC c d
def neededL (b : List Cell) : List Nat := (List.range (potsB b)).filter (isNeeded b)
def needL (b : List Cell) (n : Nat) : List Nat := (List.range n).filter (isNeeded b)
def Sized (n : Nat) (b : List Cell) : Prop := b.length ≤ 65536 ∧ n ≤ 65536 ∧ ∀ c ∈ b, c.st.length = n ∧ c.ws.length = n
theorem needed_iff {b : List Cell} {d : Nat} : isNeeded b d = true ↔ lackL b d ≠ [] := by
  unfold isNeeded lackL
  rw [List.any_eq_true]
  constructor
  · rintro ⟨c, hc, h⟩ e
    obtain ⟨i, hi, e2⟩ := List.getElem_of_mem hc
    have : i ∈ (List.range b.length).filter fun i => lacksC (cellAt b i) d := by
      rw [List.mem_filter]
      exact ⟨by simpa using hi, by simp [cellAt, hi, e2, h]⟩
    rw [e] at this
    cases this
  · intro h
    cases e : (List.range b.length).filter fun i => lacksC (cellAt b i) d with
    | nil => exact absurd e h
    | cons i r =>
      have : i ∈ (List.range b.length).filter fun i => lacksC (cellAt b i) d := by rw [e]; simp
      rw [List.mem_filter] at this
      have hi : i < b.length := by simpa using this.1
      exact ⟨_, cellAt_mem hi, this.2⟩
theorem filter_le {α : Type} {p : α → Bool} {xs : List α} : (xs.filter p).length ≤ xs.length := List.length_filter_le ..
end Wx

namespace Wx
open PySem PySem.Spec PyProof.Rows L2
/-! ### the order of the dyes -/
def freeB (b : List Cell) (o : Nat) : Bool := !b.any fun c => c.wx && lacksC c o
def subB (b : List Cell) (o p : Nat) : Bool := b.all fun c => !lacksC c o || lacksC c p
def withinB (b : List Cell) (o p : Nat) : Bool := subB b o p && (!subB b p o || decide (p < o))
def beneathB (b : List Cell) (o p : Nat) : Bool := if o = p ∨ o = 12 then false else if p = 12 then freeB b o else withinB b o p
theorem subB_iff {b : List Cell} {o p : Nat} : subB b o p = true ↔ ∀ c ∈ b, lacksC c o = true → lacksC c p = true := by
  unfold subB
  rw [List.all_eq_true]
  constructor
  · intro h c hc ho
    have := h c hc
    simpa [ho] using this
  · intro h c hc
    have := h c hc
    cases ho : lacksC c o <;> simp_all
theorem mem_lackL {b : List Cell} {d i : Nat} : i ∈ lackL b d ↔ i < b.length ∧ lacksC (cellAt b i) d = true := by
  unfold lackL
  rw [List.mem_filter]
  simp
theorem mem_cell {b : List Cell} {c : Cell} (h : c ∈ b) : ∃ i, i < b.length ∧ cellAt b i = c := by
  obtain ⟨i, hi, e⟩ := List.getElem_of_mem h
  exact ⟨i, hi, by simp [cellAt, hi, e]⟩
theorem sub_lackL {b : List Cell} {o p : Nat} : subB b o p = true ↔ ∀ i ∈ lackL b o, i ∈ lackL b p := by
  rw [subB_iff]
  constructor
  · intro h i hi
    rw [mem_lackL] at hi ⊢
    exact ⟨hi.1, h _ (cellAt_mem hi.1) hi.2⟩
  · intro h c hc ho
    obtain ⟨i, hi, rfl⟩ := mem_cell hc
    exact (mem_lackL.mp (h i (mem_lackL.mpr ⟨hi, ho⟩))).2
theorem lackL_eq {b : List Cell} {o p : Nat} : lackL b o = lackL b p ↔ subB b o p = true ∧ subB b p o = true := by
  constructor
  · intro e
    rw [sub_lackL, sub_lackL, e]
    exact ⟨fun _ h => h, fun _ h => h⟩
  · rintro ⟨h1, h2⟩
    rw [sub_lackL] at h1 h2
    unfold lackL
    apply List.filter_congr
    intro i hi
    have hi : i < b.length := by simpa using hi
    rw [Bool.eq_iff_iff]
    exact ⟨fun h => (mem_lackL.mp (h1 i (mem_lackL.mpr ⟨hi, h⟩))).2, fun h => (mem_lackL.mp (h2 i (mem_lackL.mpr ⟨hi, h⟩))).2⟩
theorem under_eq {b : List Cell} {o p : Nat} : (if lackL b o = lackL b p then decide (p < o) else (lackL b o).all fun i => decide (i ∈ lackL b p)) = withinB b o p := by
  unfold withinB
  by_cases e : lackL b o = lackL b p
  · obtain ⟨h1, h2⟩ := lackL_eq.mp e
    rw [if_pos e, h1, h2]
    simp
  · rw [if_neg e]
    have e2 : ((lackL b o).all fun i => decide (i ∈ lackL b p)) = subB b o p := by
      rw [Bool.eq_iff_iff, List.all_eq_true, sub_lackL]
      simp
    rw [e2]
    cases h1 : subB b o p
    · rfl
    · have : subB b p o = false := by
        cases h2 : subB b p o
        · rfl
        · exact absurd (lackL_eq.mpr ⟨h1, h2⟩) e
      rw [this]; rfl
theorem free_eq {b : List Cell} {o : Nat} : (!(lackL b o).any fun i => (cellAt b i).wx) = freeB b o := by
  unfold freeB
  congr 1
  rw [Bool.eq_iff_iff, List.any_eq_true, List.any_eq_true]
  constructor
  · rintro ⟨i, hi, h⟩
    rw [mem_lackL] at hi
    exact ⟨_, cellAt_mem hi.1, by simp [h, hi.2]⟩
  · rintro ⟨c, hc, h⟩
    obtain ⟨i, hi, rfl⟩ := mem_cell hc
    simp at h
    exact ⟨i, mem_lackL.mpr ⟨hi, h.2⟩, h.1⟩
@[simp] theorem fIn_N {neg : Bool} {i : Nat} {xs : List Nat} {R : PyData → Prop} : fIn neg (.int i) (.list (xs.map fun n : Nat => .int n)) R = R (.bool (neg != decide (i ∈ xs))) := by
  have h : ((xs.map natI).any fun z => PyData.eqv z (.int i)) = decide (i ∈ xs) := by
    rw [List.any_map, Bool.eq_iff_iff, List.any_eq_true]
    simp only [Function.comp_apply, eqv_int, decide_eq_true_eq]
    constructor
    · rintro ⟨x, hx, e⟩
      have : x = i := by simp at e; omega
      rw [← this]; exact hx
    · exact fun hx => ⟨i, hx, by simp⟩
  show (sh (.int i) ∧ sh (.list (xs.map natI)) ∧ R (.bool (neg != (xs.map natI).any fun z => PyData.eqv z (.int i)))) = _
  rw [h, sh_int, sh_dN]
  simp
theorem needed_lt {n : Nat} {b : List Cell} (h : Sized n b) {d : Nat} (hd : d ∈ neededL b) : d < n := by
  unfold neededL at hd
  rw [List.mem_filter] at hd
  have h1 : potsB b ≤ n := by
    cases b with
    | nil => exact Nat.zero_le _
    | cons c b => exact Nat.le_of_eq (h.2.2 c (by simp)).1
  have := hd.1
  simp at this
  omega
def membersL (b : List Cell) : List Nat := neededL b ++ [12]
theorem members_lt {n : Nat} {b : List Cell} (h : Sized n b) {d : Nat} (hd : d ∈ membersL b) : d < n ∨ d = 12 := by
  unfold membersL at hd
  rw [List.mem_append] at hd
  rcases hd with h1 | h1
  · exact .inl (needed_lt h h1)
  · simp at h1; exact .inr h1
theorem members_len {n : Nat} {b : List Cell} (h : Sized n b) : (membersL b).length ≤ n + 1 := by
  unfold membersL neededL
  have h1 : potsB b ≤ n := by
    cases b with
    | nil => exact Nat.zero_le _
    | cons c b => exact Nat.le_of_eq (h.2.2 c (by simp)).1
  have h2 := List.length_filter_le (isNeeded b) (List.range (potsB b))
  simp at h2 ⊢
  omega
theorem atI_nat {xs : List Nat} {i : Nat} (h : i < xs.length) : atI (xs.map fun n : Nat => PyData.int n) (i : Int) = some (.int (xs[i] : Nat)) := atI_map h
theorem cut_to {α : List PyData} {k : Nat} : cutD α none (some (k : Int)) = α.take k := by
  unfold cutD
  rw [HT.sIx_nat, HT.sIx_none, List.drop_zero, Nat.sub_zero]
  by_cases h : k ≤ α.length
  · rw [Nat.min_eq_left h]
  · rw [Nat.min_eq_right (by omega), List.take_length, List.take_of_length_le (by omega)]
theorem cut_from {α : List PyData} {k : Nat} : cutD α (some ((k : Int) + 1)) none = α.drop (k + 1) := by
  unfold cutD
  rw [show (k : Int) + 1 = ((k + 1 : Nat) : Int) from by omega, HT.sIx_nat, HT.sIx_none]
  by_cases h : k + 1 ≤ α.length
  · rw [Nat.min_eq_left h, List.take_of_length_le (by simp)]
  · rw [Nat.min_eq_right (by omega), List.drop_length, List.drop_eq_nil_of_le (by omega)]
    simp
def bump (p : List Int) (k : Nat) : List Int := p.set k (sd p k + 1)
end Wx

namespace Wx
open PySem PySem.Spec PyProof.Rows L2
/-! ### errors of the program's own: raised, caught -/
theorem takes_none {X : Cx} : Takes X WF := fun _ _ ⟨_, _, _, _, _, _, _, _, _, _, _, _, _, _, _, _, w⟩ => w.elim
/-- the class x is one of y's: all stand under WaxError alone -/
def exB (x y : Str) : Bool := decide (x = y) || decide (y = ("WaxError" : Str))
/-- what is known of the classes cs at the handlers' names hs -/
def ExK (K : PySem.W.Frag) (cs hs : List Str) : Prop := ∀ x ∈ cs, ∀ y ∈ hs, PySem.W.exmOne K (.ref (He.ga K x)) (.ref (He.ga K y)) = some (exB x y)
theorem exK_nil {K : PySem.W.Frag} {hs : List Str} : ExK K [] hs := fun _ h => nomatch h
theorem exK_cons {K : PySem.W.Frag} {x : Str} {cs hs : List Str} (h : ∀ y ∈ hs, PySem.W.exmOne K (.ref (He.ga K x)) (.ref (He.ga K y)) = some (exB x y)) (r : ExK K cs hs) : ExK K (x :: cs) hs := fun z hz => by
  rcases List.mem_cons.mp hz with e | hz
  · subst e; exact h
  · exact r z hz
theorem exR_nil {K : PySem.W.Frag} {x : Str} : ∀ y ∈ ([] : List Str), PySem.W.exmOne K (.ref (He.ga K x)) (.ref (He.ga K y)) = some (exB x y) := fun _ h => nomatch h
theorem exR_cons {K : PySem.W.Frag} {x y : Str} {hs : List Str} (h : PySem.W.exmOne K (.ref (He.ga K x)) (.ref (He.ga K y)) = some (exB x y)) (r : ∀ y ∈ hs, PySem.W.exmOne K (.ref (He.ga K x)) (.ref (He.ga K y)) = some (exB x y)) : ∀ z ∈ y :: hs, PySem.W.exmOne K (.ref (He.ga K x)) (.ref (He.ga K z)) = some (exB x z) := fun z hz => by
  rcases List.mem_cons.mp hz with e | hz
  · subst e; exact h
  · exact r z hz
def catchD (R : DEnds) (x : Er) (E : List En) : List (Str × DS) → Prop
  | [] => R.ex x E
  | (y, ds) :: r => (exB x.1 y = true → ds { R with ex := fun _ _ => False } E) ∧ (exB x.1 y = false → catchD R x E r)
/-- try: body, except y: .. -/
def dTry (cs : List Str) (hs : List (Str × DS)) (body : DS) : DS := fun R E => body { R with ex := fun x E' => x.1 ∈ cs ∧ catchD R x E' hs } E
inductive Hds (X : Cx) : List ExceptHandler → List (Str × DS) → Prop
  | nil : Hds X [] []
  | cons {y : Str} {ds : DS} {b₀ : Stmt} {suite : List Stmt} {np pos' : Pos} {hds : List ExceptHandler} {l : List (Str × DS)} (hc : Names X y (.ref (He.ga X.K y)))
      (hsu : ∀ (a : Addr) (pn : List (Addr × Obj)), QSs (X.suite a pn) WF (b₀ :: suite) ds) (r : Hds X hds l) :
      Hds X (.ExceptHandler (some (.Name y np)) none (b₀ :: suite) pos' :: hds) ((y, ds) :: l)
theorem Hds.ok {X : Cx} : ∀ {hds : List ExceptHandler} {l : List (Str × DS)}, Hds X hds l → HdsOk X hds (l.map fun p => (Value.ref (He.ga X.K p.1), fun _ _ _ => liftS X.K WF p.2))
  | _, _, .nil => .nil
  | _, _, .cons hc hsu r => .cons hc (fun a oe cls d pn _ _ => hsu a _) (Hds.ok r)
section
variable {X : Cx} {W : WX} {pos : Pos} {body : List Stmt} {h₀ : ExceptHandler} {hds : List ExceptHandler} {hs : List (Str × DS)} {db : DS} {cs : List Str}
theorem catch_ok {K : PySem.W.Frag} {R : DEnds} {D : Ends} {P : Pt} (L : Link K W P.bx P.G0 P.H0 R D) {x : Er} {cls : Value} {dd : Option Addr} {G H : Hp} {σ : L2.St} {E : List En} (s : SR P.bx P.G0 P.H0 G H σ E) (er : ErOk K G H x cls dd) :
    ∀ (hs : List (Str × DS)), (∀ p ∈ hs, PySem.W.exmOne K (.ref (He.ga K x.1)) (.ref (He.ga K p.1)) = some (exB x.1 p.1)) → catchD R x E hs → wMany K W D (hs.map fun p => (Value.ref (He.ga K p.1), fun _ _ _ => liftS K WF p.2)) cls dd σ H
  | [], _, h => L.ex x cls dd G H σ E s er h
  | (y, ds) :: r, hk, ⟨h1, h2⟩ => by
    obtain ⟨ec, _⟩ := id er
    refine ⟨exB x.1 y, by rw [ec]; exact hk (y, ds) (by simp), fun hb a ha => ?_, fun hb => catch_ok L s er r (fun p hp => hk p (by simp [hp])) (h2 hb)⟩
    refine ⟨⟨P.bx, P.G0, P.H0, G, E⟩, { R with ex := fun _ _ => False }, s, ?_, ⟨L.nx, L.rt, L.ro, L.bk, L.ct, fun _ _ _ _ _ _ _ _ _ f => f.elim⟩⟩
    exact h1 hb
theorem s_try (hst : X.stack = X.env :: X.outer) (hf : X.env.frame = some X.env.locals) (tk : Takes X W) (hx : ExK X.K cs (hs.map (·.1)))
    (hb : ∀ (W' : WX) (pn : List (Addr × Obj)) (xe : Value → Shared → Prop), Takes (X.tr pn xe) W' → PassesOwn (model X.prog X.w) X.A X.env xe → QSs (X.tr pn xe) W' body db) (hh : Hds X (h₀ :: hds) hs) : QS X W (.Try body (h₀ :: hds) [] [] pos) (dTry cs hs db) :=
  ps_imp (ps_try_many (tb := fun W2 => liftS X.K W2 db) hst hf tk hb hh.ok) fun D σ H ⟨P, R, S, h, L⟩ => ⟨P, _, S, h, ⟨L.nx, L.rt, L.ro, L.bk, L.ct, fun x cls dd G H σ E s er ⟨hm, hc⟩ =>
    catch_ok L s er hs (fun p hp => hx x.1 hm p.1 (List.mem_map_of_mem hp)) hc⟩⟩
/-- an error of the program's own -/
structure ErK (K : PySem.W.Frag) (mg : Str → Option Value) (x : Str) : Prop where
  g : mg x = some (.ref (He.ga K x))
  e : PySem.W.excIn K (He.ga K x) He.veBase "ValueError.__new__" = true
  k : PySem.W.keepIn K (.ref (He.ga K x)) = true
  s : PySem.W.subIn K (.ref (He.ga K x)) (.type "BaseException") = some true
  t : PySem.W.typeIn K (.ref (He.ga K x)) = some (.type "type")
theorem s_raiseOwn {n m : Str} {j : Nat} {p p2 pos2 : Pos} (x : ErK X.K X.mg n) (hc : X.calm = true) (tk : Takes X W) (hg : Gl X n := by rfl) (hdb : (n == ("__debug__" : Str)) = false := by decide) : QS X W (.Raise (some (.Call (.Name n p) [.Constant (.str m) j p2] [] pos2)) none pos) (dRaise n) :=
  s_raise hc tk (pmk_own PySem.F.excBase_ValueError x.e x.g x.k (raises_own x.s x.t) hg hdb) fun _ _ _ h => h
theorem names_own {n : Str} (x : ErK X.K X.mg n) (hg : Gl X n := by rfl) (hdb : (n == ("__debug__" : Str)) = false := by decide) : Names X n (.ref (He.ga X.K n)) := ⟨hg, hdb, .inl x.g⟩
end
@[simp] theorem dTry_s {cs : List Str} {hs : List (Str × DS)} {body : DS} {R : DEnds} {E : List En} : dTry cs hs body R E = body { R with ex := fun x E' => x.1 ∈ cs ∧ catchD R x E' hs } E := rfl
@[simp] theorem catchD_n {R : DEnds} {x : Er} {E : List En} : catchD R x E [] = R.ex x E := rfl
@[simp] theorem catchD_c {R : DEnds} {x : Er} {E : List En} {y : Str} {ds : DS} {r : List (Str × DS)} : catchD R x E ((y, ds) :: r) = ((exB x.1 y = true → ds { R with ex := fun _ _ => False } E) ∧ (exB x.1 y = false → catchD R x E r)) := rfl
end Wx

namespace Wx
open PySem PySem.Spec PyProof.Rows L2
theorem subB_trans {b : List Cell} {o p q : Nat} (h1 : subB b o p = true) (h2 : subB b p q = true) : subB b o q = true := by
  rw [subB_iff] at *
  exact fun c hc h => h2 c hc (h1 c hc h)
theorem beneath_iff {b : List Cell} {o p : Nat} : beneathB b o p = true ↔ o ≠ p ∧ o ≠ 12 ∧ ((p = 12 ∧ freeB b o = true) ∨ (p ≠ 12 ∧ subB b o p = true ∧ (subB b p o = true → p < o))) := by
  unfold beneathB
  by_cases e1 : o = p
  · simp [e1]
  · by_cases e2 : o = 12
    · simp [e2]
    · by_cases e3 : p = 12
      · simp [e1, e2, e3]
      · rw [if_neg (by simp [e1, e2]), if_neg e3]
        unfold withinB
        cases h : subB b p o <;> simp [e1, e2, e3]
theorem beneath_irr {b : List Cell} {o : Nat} : beneathB b o o = false := by simp [beneathB]
theorem beneath_now {b : List Cell} {o : Nat} : beneathB b 12 o = false := by simp [beneathB]
theorem beneath_asym {b : List Cell} {o p : Nat} (h : beneathB b o p = true) : beneathB b p o = false := by
  cases h2 : beneathB b p o with
  | false => rfl
  | true =>
    rw [beneath_iff] at h h2
    obtain ⟨a1, a2, a3⟩ := h
    obtain ⟨b1, b2, b3⟩ := h2
    rcases a3 with ⟨e, _⟩ | ⟨_, s1, l1⟩
    · exact absurd e b2
    · rcases b3 with ⟨e, _⟩ | ⟨_, s2, l2⟩
      · exact absurd e a2
      · have := l1 s2
        have := l2 s1
        omega
theorem free_sub {b : List Cell} {o p : Nat} (h1 : subB b o p = true) (h2 : freeB b p = true) : freeB b o = true := by
  rw [subB_iff] at h1
  unfold freeB at *
  rw [Bool.not_eq_true', List.any_eq_false] at *
  intro c hc h
  simp at h
  exact h2 c hc (by simp [h.1, h1 c hc h.2])
theorem beneath_trans {b : List Cell} {o p q : Nat} (h1 : beneathB b o p = true) (h2 : beneathB b p q = true) : beneathB b o q = true := by
  rw [beneath_iff] at *
  obtain ⟨a1, a2, a3⟩ := h1
  obtain ⟨b1, b2, b3⟩ := h2
  rcases a3 with ⟨e, _⟩ | ⟨_, s1, l1⟩
  · exact absurd e b2
  · rcases b3 with ⟨rfl, f⟩ | ⟨hq, s2, l2⟩
    · exact ⟨a2, a2, .inl ⟨rfl, free_sub s1 f⟩⟩
    · have key : subB b q o = true → q < o := fun h => by
        have := l1 (subB_trans s2 h)
        have := l2 (subB_trans h s1)
        omega
      refine ⟨fun e => ?_, a2, .inr ⟨hq, subB_trans s1 s2, key⟩⟩
      subst e
      have := key (subB_iff.mpr fun _ _ h => h)
      omega
/-! ### sorting -/
theorem sorted_uniq : ∀ {xs ys : List Int}, xs.Perm ys → xs.Pairwise (· ≤ ·) → ys.Pairwise (· ≤ ·) → xs = ys
  | [], ys, h, _, _ => (List.nil_perm.mp h).symm
  | x :: xs, [], h, _, _ => absurd h.length_eq (by simp)
  | x :: xs, y :: ys, h, h1, h2 => by
    rw [List.pairwise_cons] at h1 h2
    have e : x = y := by
      have hx : x ∈ y :: ys := h.subset (by simp)
      have hy : y ∈ x :: xs := h.symm.subset (by simp)
      rcases List.mem_cons.mp hx with e | hx
      · exact e
      · rcases List.mem_cons.mp hy with e | hy
        · exact e.symm
        · have := h1.1 y hy
          have := h2.1 x hx
          omega
    subst e
    rw [sorted_uniq (List.Perm.cons_inv h) h1.2 h2.2]
def srt (xs : List Nat) : List Nat := xs.mergeSort fun a b => decide (a ≤ b)
theorem srt_perm (xs : List Nat) : (srt xs).Perm xs := List.mergeSort_perm ..
theorem srt_sorted (xs : List Nat) : (srt xs).Pairwise (· ≤ ·) := by
  have := List.pairwise_mergeSort (le := fun a b : Nat => decide (a ≤ b)) (fun a b c h1 h2 => by simp at *; omega) (fun a b => by simp; omega) xs
  exact this.imp fun h => by simpa using h
theorem srt_eq {xs ys : List Nat} (h : xs.Perm ys) : srt xs = srt ys := by
  have h1 : ((srt xs).map Int.ofNat).Perm ((srt ys).map Int.ofNat) := (((srt_perm xs).trans h).trans (srt_perm ys).symm).map _
  have e := sorted_uniq h1 (List.pairwise_map.mpr ((srt_sorted xs).imp fun h => Int.ofNat_le.mpr h)) (List.pairwise_map.mpr ((srt_sorted ys).imp fun h => Int.ofNat_le.mpr h))
  have inj : ∀ {a b : List Nat}, a.map Int.ofNat = b.map Int.ofNat → a = b := fun {a b} h => by
    have := congrArg (List.map Int.toNat) h
    simpa [Function.comp_def] using this
  exact inj e
theorem fSorted_N {xs : List Nat} {R : List PyData → Prop} (hl : xs.length < 64) (h : R ((srt xs).map natI)) : fSorted [.list (xs.map fun n : Nat => .int n)] R := by
  refine .inl ⟨xs.map Int.ofNat, by simp, by simpa using hl, fun ms hp hs => ?_⟩
  have e : ms = (srt xs).map Int.ofNat := sorted_uniq (hp.trans ((srt_perm xs).map _).symm) hs (List.pairwise_map.mpr ((srt_sorted xs).imp fun h => Int.ofNat_le.mpr h))
  rw [e, List.map_map]
  exact h
/-! ### tiers -/
def topB (b : List Cell) (xs : List Nat) (d : Nat) : Bool := !xs.any fun o => beneathB b d o
def topsOf (b : List Cell) (xs : List Nat) : List Nat := xs.filter (topB b xs)
def restOf (b : List Cell) (xs : List Nat) : List Nat := xs.filter fun d => !decide (d ∈ topsOf b xs)
def tiersF (b : List Cell) : Nat → List Nat → List (List Nat)
  | 0, _ => []
  | _ + 1, [] => []
  | k + 1, x :: xs => topsOf b (x :: xs) :: tiersF b k (restOf b (x :: xs))
theorem tiers_nil {b : List Cell} {k : Nat} : tiersF b k [] = [] := by cases k <;> rfl
theorem tiers_cons {b : List Cell} {k : Nat} {xs : List Nat} (h : xs ≠ []) : tiersF b (k + 1) xs = topsOf b xs :: tiersF b k (restOf b xs) := by
  cases xs with
  | nil => exact absurd rfl h
  | cons x xs => rfl
theorem bIrr {b : List Cell} {o : Nat} : beneathB b o o = false := by simp [beneathB]
theorem filter_lt {p q : Nat → Bool} : ∀ {xs : List Nat} {x : Nat}, (∀ y ∈ xs, p y = true → q y = true) → x ∈ xs → q x = true → p x = false → (xs.filter p).length < (xs.filter q).length
  | y :: ys, x, h, hx, hq, hp => by
    have le : (ys.filter p).length ≤ (ys.filter q).length := by
      have : ∀ zs : List Nat, (∀ z ∈ zs, p z = true → q z = true) → (zs.filter p).length ≤ (zs.filter q).length := fun zs => by
        induction zs with
        | nil => intro _; exact Nat.le_refl _
        | cons z zs ih =>
          intro hz
          have i1 := ih fun w hw => hz w (by simp [hw])
          rw [List.filter_cons, List.filter_cons]
          cases e1 : p z with
          | false =>
            cases e2 : q z <;> simp <;> omega
          | true =>
            rw [hz z (by simp) e1]
            simp; omega
      exact this ys fun z hz => h z (by simp [hz])
    rw [List.filter_cons, List.filter_cons]
    rcases List.mem_cons.mp hx with e | hx
    · subst e
      rw [hq, hp]
      simp; omega
    · have := filter_lt (fun z hz => h z (by simp [hz])) hx hq hp
      cases e1 : p y with
      | false => cases e2 : q y <;> simp <;> omega
      | true =>
        rw [h y (by simp) e1]
        simp; omega
variable {b : List Cell}
theorem above_top (tr : ∀ {o p q : Nat}, beneathB b o p = true → beneathB b p q = true → beneathB b o q = true) {xs : List Nat} : ∀ (n : Nat) (d : Nat), (xs.filter fun o => beneathB b d o).length ≤ n → d ∈ xs → ∃ t ∈ topsOf b xs, d = t ∨ beneathB b d t = true
  | n, d, hn, hd => by
    cases ht : topB b xs d with
    | true => exact ⟨d, List.mem_filter.mpr ⟨hd, ht⟩, .inl rfl⟩
    | false =>
      have : xs.any (fun o => beneathB b d o) = true := by
        unfold topB at ht
        simpa using ht
      obtain ⟨o, ho, hb⟩ := List.any_eq_true.mp this
      have lt := filter_lt (p := fun z => beneathB b o z) (q := fun z => beneathB b d z) (fun z _ hz => tr hb hz) ho hb bIrr
      cases n with
      | zero => omega
      | succ n =>
        obtain ⟨t, h1, h2⟩ := above_top tr n o (by omega) ho
        refine ⟨t, h1, .inr ?_⟩
        rcases h2 with e | h2
        · rw [← e]; exact hb
        · exact tr hb h2
theorem mem_rest {xs : List Nat} {d : Nat} (h : d ∈ restOf b xs) : d ∈ xs ∧ d ∉ topsOf b xs := by
  unfold restOf at h
  rw [List.mem_filter] at h
  exact ⟨h.1, by simpa using h.2⟩
theorem top_of {xs : List Nat} {d : Nat} (h : d ∈ topsOf b xs) : d ∈ xs ∧ ∀ o ∈ xs, beneathB b d o = false := by
  unfold topsOf at h
  rw [List.mem_filter] at h
  refine ⟨h.1, fun o ho => ?_⟩
  have := h.2
  unfold topB at this
  simp at this
  exact this o ho
theorem tops_ne (tr : ∀ {o p q : Nat}, beneathB b o p = true → beneathB b p q = true → beneathB b o q = true) {xs : List Nat} (h : xs ≠ []) : topsOf b xs ≠ [] := by
  cases xs with
  | nil => exact absurd rfl h
  | cons x xs =>
    obtain ⟨t, h1, _⟩ := above_top tr _ x (Nat.le_refl _) (show x ∈ x :: xs by simp)
    intro e
    rw [e] at h1
    cases h1
theorem rest_perm {xs : List Nat} : (topsOf b xs ++ restOf b xs).Perm xs := by
  have e : restOf b xs = xs.filter fun d => !topB b xs d := by
    unfold restOf
    apply List.filter_congr
    intro d hd
    congr 1
    rw [Bool.eq_iff_iff]
    simp [topsOf, hd]
  rw [e]
  exact List.filter_append_perm _ _
theorem rest_lt (tr : ∀ {o p q : Nat}, beneathB b o p = true → beneathB b p q = true → beneathB b o q = true) {xs : List Nat} (h : xs ≠ []) : (restOf b xs).length < xs.length := by
  have h1 := (rest_perm (b := b) (xs := xs)).length_eq
  have h2 := List.length_pos_iff.mpr (tops_ne tr h)
  rw [List.length_append] at h1
  omega
/-- each tier has something, and each of its next one's dyes is beneath one of it -/
def Good (b : List Cell) : List (List Nat) → Prop
  | [] => True
  | t :: r => t ≠ [] ∧ (∀ d ∈ r.headD [], ∃ o ∈ t, beneathB b d o = true) ∧ (∀ d ∈ t, ∀ o ∈ t, beneathB b d o = false) ∧ Good b r
theorem head_tiers {k : Nat} {xs : List Nat} {d : Nat} (h : d ∈ (tiersF b k xs).headD []) : d ∈ xs := by
  cases k with
  | zero => cases h
  | succ k =>
    cases xs with
    | nil => cases h
    | cons x xs => exact (top_of h).1
theorem tiers_good (tr : ∀ {o p q : Nat}, beneathB b o p = true → beneathB b p q = true → beneathB b o q = true) : ∀ (k : Nat) (xs : List Nat), xs.length ≤ k → Good b (tiersF b k xs)
  | 0, xs, _ => trivial
  | k + 1, xs, hk => by
    by_cases h : xs = []
    · rw [h, tiers_nil]; trivial
    · rw [tiers_cons h]
      have := rest_lt tr h
      refine ⟨tops_ne tr h, fun d hd => ?_, fun d hd o ho => (top_of hd).2 o (top_of ho).1, tiers_good tr k _ (by omega)⟩
      obtain ⟨h1, h2⟩ := mem_rest (head_tiers hd)
      obtain ⟨t, ht, e⟩ := above_top tr _ d (Nat.le_refl _) h1
      rcases e with e | e
      · rw [← e] at ht; exact absurd ht h2
      · exact ⟨t, ht, e⟩
theorem tiers_perm (tr : ∀ {o p q : Nat}, beneathB b o p = true → beneathB b p q = true → beneathB b o q = true) : ∀ (k : Nat) (xs : List Nat), xs.length ≤ k → (tiersF b k xs).flatten.Perm xs
  | 0, xs, hk => by
    have : xs = [] := List.eq_nil_of_length_eq_zero (by omega)
    rw [this]; exact List.Perm.refl _
  | k + 1, xs, hk => by
    by_cases h : xs = []
    · rw [h, tiers_nil]; exact List.Perm.refl _
    · rw [tiers_cons h, List.flatten_cons]
      have := rest_lt tr h
      exact ((tiers_perm tr k _ (by omega)).append_left _).trans rest_perm
/-- a chain out of the tiers -/
def chainF (b : List Cell) : List (List Nat) → List Nat
  | [] => []
  | t :: r => match chainF b r with
    | [] => [t.headD 0]
    | x :: c => (t.filter fun d => beneathB b x d).headD 0 :: x :: c
theorem headD_mem {t : List Nat} (h : t ≠ []) : t.headD 0 ∈ t := by
  cases t with
  | nil => exact absurd rfl h
  | cons x t => simp
theorem chain_head : ∀ {L : List (List Nat)}, Good b L → L ≠ [] → ∃ x c, chainF b L = x :: c ∧ x ∈ L.headD []
  | [], _, h => absurd rfl h
  | t :: r, g, _ => by
    obtain ⟨g1, g2, g3, g4⟩ := g
    cases hr : r with
    | nil => exact ⟨t.headD 0, [], rfl, headD_mem g1⟩
    | cons t2 r2 =>
      obtain ⟨x, c, e, hx⟩ := chain_head g4 (by rw [hr]; simp)
      obtain ⟨o, ho, hb⟩ := g2 x hx
      refine ⟨(t.filter fun d => beneathB b x d).headD 0, x :: c, ?_, ?_⟩
      · rw [hr] at e
        show (match chainF b (t2 :: r2) with
          | [] => [t.headD 0]
          | x :: c => (t.filter fun d => beneathB b x d).headD 0 :: x :: c) = _
        rw [e]
      · have := headD_mem (t := t.filter fun d => beneathB b x d) (fun e => by
          have : o ∈ t.filter fun d => beneathB b x d := List.mem_filter.mpr ⟨ho, hb⟩
          rw [e] at this; cases this)
        exact (List.mem_filter.mp this).1
theorem chain_cons {t : List Nat} {r : List (List Nat)} (g : Good b (t :: r)) (hr : r ≠ []) : ∃ x c, chainF b r = x :: c ∧ chainF b (t :: r) = (t.filter fun d => beneathB b x d).headD 0 :: x :: c ∧ (t.filter fun d => beneathB b x d) ≠ [] := by
  obtain ⟨g1, g2, g3, g4⟩ := g
  obtain ⟨x, c, e, hx⟩ := chain_head g4 hr
  obtain ⟨o, ho, hb⟩ := g2 x hx
  refine ⟨x, c, e, ?_, fun e2 => ?_⟩
  · show (match chainF b r with
      | [] => [t.headD 0]
      | x :: c => (t.filter fun d => beneathB b x d).headD 0 :: x :: c) = _
    rw [e]
  · have : o ∈ t.filter fun d => beneathB b x d := List.mem_filter.mpr ⟨ho, hb⟩
    rw [e2] at this; cases this
theorem chain_len : ∀ {L : List (List Nat)}, Good b L → (chainF b L).length = L.length
  | [], _ => rfl
  | t :: r, g => by
    by_cases hr : r = []
    · subst hr; rfl
    · obtain ⟨x, c, e1, e2, _⟩ := chain_cons g hr
      have := chain_len g.2.2.2
      rw [e1] at this
      rw [e2]
      simp at this ⊢
      omega
theorem chain_mem : ∀ {L : List (List Nat)}, Good b L → ∀ d ∈ chainF b L, d ∈ L.flatten
  | [], _, d, h => by cases h
  | t :: r, g, d, h => by
    by_cases hr : r = []
    · subst hr
      have : d = t.headD 0 := by simpa [chainF] using h
      rw [this, List.flatten_cons]
      exact List.mem_append_left _ (headD_mem g.1)
    · obtain ⟨x, c, e1, e2, e3⟩ := chain_cons g hr
      rw [e2] at h
      rw [List.flatten_cons, List.mem_append]
      rcases List.mem_cons.mp h with e | h
      · rw [e]
        exact .inl (List.mem_filter.mp (headD_mem e3)).1
      · exact .inr (chain_mem g.2.2.2 d (by rw [e1]; exact h))
theorem chain_pw (tr : ∀ {o p q : Nat}, beneathB b o p = true → beneathB b p q = true → beneathB b o q = true) : ∀ {L : List (List Nat)}, Good b L → (chainF b L).Pairwise fun a c => beneathB b c a = true
  | [], _ => .nil
  | t :: r, g => by
    by_cases hr : r = []
    · subst hr
      exact List.pairwise_singleton ..
    · obtain ⟨x, c, e1, e2, e3⟩ := chain_cons g hr
      have ih := chain_pw tr g.2.2.2
      rw [e1] at ih
      rw [e2]
      have hy := (List.mem_filter.mp (headD_mem e3)).2
      refine List.pairwise_cons.mpr ⟨fun z hz => ?_, ih⟩
      rcases List.mem_cons.mp hz with e | hz
      · rw [e]; exact hy
      · exact tr ((List.pairwise_cons.mp ih).1 z hz) hy
def clashB (b : List Cell) (o p : Nat) : Bool := !decide (o = p) && (!beneathB b o p && !beneathB b p o)
end Wx

namespace Wx
open PySem PySem.Spec PyProof.Rows L2
/-! ### how many different numbers stand in a tuple -/
def tDiff (K : PySem.W.Frag) (ta : TE) : TE := fun σ H Q => ta σ H fun x H1 => ∃ (l : Addr) (ns : List Int), x = .ref l ∧ SqT K H1 l (ns.map V.int) ∧ ns.length ≤ 4000 ∧ ∀ ks : List Int, ks.Nodup → (∀ k, k ∈ ks ↔ k ∈ ns) → Q (.int (ks.length : Nat)) H1
theorem ints_of : ∀ {ns : List Int} {us : List Value}, Vals (ns.map V.int) us → PyProof.Rows.IntsAre us ns
  | [], _, .nil => .nil
  | m :: ms, _, .cons q w => by
    obtain ⟨j, hj⟩ := q
    rw [hj]
    exact .cons m j (ints_of w)
theorem pe_diff {X : Cx} {a : Expr} {ta : TE} {p p2 q pos : Pos} (fr : Fr X.mg) (ha : PE X a ta) (hg : Gl X "len" := by rfl) (hg2 : Gl X "set" := by rfl) (hc : X.calm = true := by rfl)
    (na : starEach [a] X.env = (false, eval a X.env) :: starEach [] X.env := by rfl) : PE X (.Call (.Name "len" p) [.Call (.Name "set" p2) [a] [] q] [] pos) (tDiff X.K ta) := by
  constructor
  intro pins s σ H Q I h
  apply Call_ (ld_blt I hg fr.len boot_len ?_)
  apply callWith_builtin1 (args_cons ?_ rfl) rfl rfl
  apply Call_ (ld_blt I hg2 fr.set boot_set ?_)
  apply callWith_type1 (args_cons (thn (ha.run pins s σ H _ I h) ?_) na) na rfl
  rintro v s1 ⟨x, H1, I1, r1, l, ns, rfl, hq, hl, q1⟩
  refine args_nil ?_
  cases r1
  obtain ⟨its, r, ⟨ol, h1, h2, n, h3⟩, hz⟩ := I1.tuple hq
  have il := ints_of r
  refine call_set_tupI ns (I1.ok.hd hc) ⟨ol, h1, h2, n, h3⟩ (by simpa using il) (by unfold scanBound; omega) fun h' tk c R hcn hk => ?_
  refine args_nil ?_
  obtain ⟨o, es, ep, t, ho, hex, hd, _, nd, mem, hsz, hf, hn, _⟩ := R
  have J : Inv X pins σ H1 { s1 with heap := h', toks := tk } := I1.kept hk
  have e : (es.toList.map keyOf).length = es.size := by simp
  have fin := q1 (es.toList.map keyOf) nd fun k => by rw [← mem k]; simp
  rw [e] at fin
  refine call_len_set ho hex hd hf ?_ ⟨.int es.size, H1, J.tok _, ⟨_, rfl⟩, fin⟩
  have : scanBound = 4096 := rfl
  omega
/-! ### a list backwards -/
theorem pick_back (its : List Value) : slicePick its.toArray none none (some (-1)) = its.reverse.toArray := by
  unfold slicePick
  congr 1
  have hb : sliceBounds none none (some (-1)) its.toArray.size = ((its.length : Int) - 1, -1, -1) := by
    simp [sliceBounds]
  rw [hb]
  have hr : sliceRange ((its.length : Int) - 1) (-1) (-1) = (List.range its.length).map fun k : Nat => its.length - 1 - k := by
    unfold sliceRange
    by_cases h : its.length = 0
    · simp [h]
    · have e : (if (-1 : Int) > 0 then (if (its.length : Int) - 1 < -1 then (-1 - ((its.length : Int) - 1) + -1 - 1) / -1 else 0) else (if (its.length : Int) - 1 > -1 then ((its.length : Int) - 1 - -1 - -1 - 1) / (- -1) else 0)) = (its.length : Int) := by
        rw [if_neg (by decide), if_pos (by omega), show (- -1 : Int) = 1 from rfl, Int.ediv_one]
        omega
      simp only [e, Int.toNat_natCast]
      apply List.map_congr_left
      intro k hk
      simp at hk
      omega
  show ((sliceRange ((its.length : Int) - 1) (-1) (-1)).filterMap (its.toArray[·]?)) = _
  rw [hr, List.filterMap_map]
  have : ∀ n, n ≤ its.length → (List.range n).filterMap ((fun x => its.toArray[x]?) ∘ fun k => its.length - 1 - k) = its.reverse.take n := fun n => by
    induction n with
    | zero => intro _; rfl
    | succ n ih =>
      intro hn
      rw [List.range_succ, List.filterMap_append, ih (by omega), List.take_add_one]
      congr 1
      have hn2 : its.length - 1 - n < its.length := by omega
      simp [hn2, List.getElem?_reverse (show n < its.length by omega)]
  have q := this its.length (Nat.le_refl _)
  rw [q, List.take_of_length_le (by simp)]
def tBack (K : PySem.W.Frag) (te : TE) (ts : TO) : TE := fun σ H Q => te σ H fun x H1 => ts σ H1 fun o H2 => o = some (-1) ∧ ∃ a xs, x = .ref a ∧ SqL K H2 a xs ∧ ∀ p, H2 p = none → Q (.ref p) (upd H2 p (.lst xs.reverse))
theorem pe_back {X : Cx} {e : Expr} {st : Option Expr} {te : TE} {ts : TO} {p2 pos : Pos} (he : PE X e te) (hs : PO X st ts) (hsub : ∀ x y : Value, subscripted (.Slice none none st p2) false x y = operate [x, y] (getItem x y) := by intro _ _; with_unfolding_all rfl) : PE X (.Subscript e (.Slice none none st p2) pos) (tBack X.K te ts) := by
  constructor
  intro pins s σ H Q I h
  apply Subscript_ (thn (he.run pins s σ H _ I h) ?_)
  rintro v s1 ⟨x, H1, I1, r1, q1⟩
  apply wpAny_Slice
  rw [evalPart_none]
  apply wpAny_pure
  apply wpAny_pure
  apply thn (hs.run pins s1 σ H1 _ I1 q1)
  rintro vs s2 ⟨o, H2, I2, ps, rfl, a, xs, rfl, hq, q2⟩
  cases r1
  have J : Inv X pins σ H2 { s2 with heap := s2.heap.push { cls := .type "slice", data := .fields #[.none, .none, vs] } } := I2.kept (t' := s2.toks) fun b ob q => Heap.get?_push_of_some _ q
  obtain ⟨its, r, ht, hz⟩ := J.list hq
  have hlen := r.length
  show wpAny (model X.prog X.w) X.A (subscriptTail e (.Slice none none st p2) (.ref a) (.ref s2.heap.objs.size)) (EP X pins σ Q) X.xe { s2 with heap := s2.heap.push { cls := .type "slice", data := .fields #[.none, .none, vs] } }
  refine tail_any (ops := [.ref a, .ref s2.heap.objs.size]) ht.isList.typeIs slot_list_getitem.lookup ?_ (hsub _ _)
  refine wpAny_getItem_list_slice ht.isList (Heap.IsSliceOf.new ..) .none .none ps (by simp) ?_ (by rw [List.size_toArray] <;> omega)
  rw [pick_back]
  refine ⟨.ref _, _, J.laid (t' := s2.toks) (o := .lst xs.reverse) (fun b ob q => Heap.get?_push_of_some _ q) (Nat.le_refl _) ?_, rfl, q2 _ ?_⟩
  · exact ⟨by rw [List.length_reverse]; exact hz, _, 0, r.reverse, Heap.get?_push_size _ rfl⟩
  · exact J.hok.fresh (Nat.le_refl _)
/-! over data -/
def asDiff (d : PyData) (R : PyData → Prop) : Prop := ∃ ns : List Int, d = .tuple (ns.map .int) ∧ ns.length ≤ 4000 ∧ ∀ ks : List Int, ks.Nodup → (∀ k, k ∈ ks ↔ k ∈ ns) → R (.int (ks.length : Nat))
def dDiff (de : DE) : DE := fun E R Xn => de E (fun d => asDiff d R) Xn
def asRev (d : PyData) (o : Option Int) (R : List PyData → Prop) : Prop := o = some (-1) ∧ ∃ ds, d = .list ds ∧ R ds.reverse
def dBack (de : DE) (d1 : DO) : DF := fun E R Xn => de E (fun d => d1 E (fun o => asRev d o R) Xn) Xn
def asRng (d : PyData) (R : List PyData → Prop) : Prop := ∃ n : Nat, d = .int n ∧ n ≤ 16777216 ∧ R (rngD 0 n)
def dRngL (de : DE) : DF := fun E R Xn => de E (fun d => asRng d R) Xn
theorem RpAll.rev {G : Hp} : ∀ {xs : List V} {ds : List PyData}, RpAll G xs ds → RpAll G xs.reverse ds.reverse
  | _, _, .nil => .nil
  | _, _, .cons r t => by
    rw [List.reverse_cons, List.reverse_cons]
    exact (RpAll.rev t).app (.cons r .nil)
section
variable {X : Cx} {W : WX} {pos p p2 q : Pos} {a : Expr} {st : Option Expr} {da : DE} {d1 : DO}
theorem q_diff (fr : Fr X.mg) (ha : QE X W a da) (hg : Gl X "len" := by rfl) (hg2 : Gl X "set" := by rfl) (hc : X.calm = true := by rfl) (na : starEach [a] X.env = (false, eval a X.env) :: starEach [] X.env := by rfl) :
    QE X W (.Call (.Name "len" p) [.Call (.Name "set" p2) [a] [] q] [] pos) (dDiff da) := pe_imp (pe_diff fr ha hg hg2 hc na) fun σ H Q ⟨P, R, Xn, S, h, kq, kx⟩ =>
  ⟨P, _, Xn, S, h, fun v G1 H1 d e1 S1 r1 ⟨ns, ed, hl, hR⟩ => (by
    subst ed
    cases r1 with
    | @tup a xs ds h a1 =>
      have e := a1.ints
      subst e
      exact ⟨_, ns, rfl, SqT.of (S1.w.s _ _ h), hl, fun ks h1 h2 => kq _ G1 H1 _ e1 S1 (.int _) (hR ks h1 h2)⟩), kx⟩
theorem f_back (ha : QE X W a da) (h1 : QO X W st d1) (hsub : ∀ x y : Value, subscripted (.Slice none none st p2) false x y = operate [x, y] (getItem x y) := by intro _ _; with_unfolding_all rfl) : QF X W (.Subscript a (.Slice none none st p2) pos) (dBack da d1) :=
  pe_imp (pe_back ha h1 hsub) fun σ H Q ⟨P, R, Xn, S, h, kq, kx⟩ =>
  ⟨P, _, Xn, S, h, fun v G1 H1 d e1 S1 r1 h1 => ⟨P.go G1, _, Xn, S1, h1, fun o G2 H2 e2 S2 ⟨eo, ds, ed, hR⟩ => (by
    subst ed
    have r2 := r1.up e2.g
    cases r2 with
    | @lst a xs ds h4 a4 =>
      refine ⟨eo, a, xs, rfl, SqL.of (S2.w.s _ _ h4), fun p hp => ?_⟩
      have en : Ext none G2 H2 G2 (upd H2 p (.lst xs.reverse)) := Ext.own hp
      have e := e1.trans e2
      exact kq p _ _ _ _ (e.trans en.any) (S2.pure en (same_own S2.w.s hp)) (e.none_of hp) (S2.w.s.free hp) upd_same a4.rev hR), kx⟩, kx⟩
theorem f_rng {pos2 : Pos} (fr : Fr X.mg) (hc : X.calm = true) (ha : QE X W a da) (hg : Gl X "list" := by rfl) (hg2 : Gl X "range" := by rfl) (na : starEach [a] X.env = (false, eval a X.env) :: starEach [] X.env := by rfl)
    (nb : starEach [.Call (.Name "range" p2) [a] [] pos2] X.env = (false, eval (.Call (.Name "range" p2) [a] [] pos2) X.env) :: starEach [] X.env := by rfl) : QF X W (.Call (.Name "list" p) [.Call (.Name "range" p2) [a] [] pos2] [] pos) (dRngL da) :=
  pe_imp (pe_listRg hc hg fr.list (prg_1 hg2 fr.range ha na) nb) fun σ H Q ⟨P, R, Xn, S, h, kq, kx⟩ =>
  ⟨P, _, Xn, S, h, fun v G1 H1 d e1 S1 r1 ⟨n, ed, hl, hR⟩ => (by
    subst ed
    cases r1
    refine ⟨_, rfl, RgOk.of_le (by omega) (by omega) (by omega) (by omega), fun p hp => ?_⟩
    have en : Ext none G1 H1 G1 (upd H1 p (.lst (rgV 0 n))) := Ext.own hp
    refine kq p _ _ _ _ (e1.trans en.any) (S1.pure en (same_own S1.w.s hp)) (e1.none_of hp) (S1.w.s.free hp) upd_same ?_ hR
    have e : rgV 0 n = ((List.range n).map fun i : Nat => (0 : Int) + i).map V.int := by
      unfold rgV
      simp
    have e2 : rngD 0 n = ((List.range n).map fun i : Nat => (0 : Int) + i).map PyData.int := by
      unfold rngD
      simp
    rw [e, e2]
    exact rps_ints _), kx⟩
end
section
variable {E : List En} {R : PyData → Prop} {RF : List PyData → Prop} {Xn : Er → Prop} {de : DE} {d1 : DO}
@[simp] theorem dDiff_s : dDiff de E R Xn = de E (fun d => asDiff d R) Xn := rfl
@[simp] theorem dBack_s : dBack de d1 E RF Xn = de E (fun d => d1 E (fun o => asRev d o RF) Xn) Xn := rfl
@[simp] theorem dRngL_s : dRngL de E RF Xn = de E (fun d => asRng d RF) Xn := rfl
@[simp] theorem asRev_s {ds : List PyData} {o : Option Int} : asRev (.list ds) o RF = (o = some (-1) ∧ RF ds.reverse) := propext ⟨fun ⟨h, _, e, q⟩ => by cases e; exact ⟨h, q⟩, fun ⟨h, q⟩ => ⟨h, ds, rfl, q⟩⟩
end
/-! numbers that stand twice -/
theorem len_sub : ∀ {ks zs : List Int}, ks.Nodup → (∀ k ∈ ks, k ∈ zs) → ks.length ≤ zs.length
  | [], _, _, _ => Nat.zero_le _
  | k :: ks, zs, h, hm => by
    rw [List.nodup_cons] at h
    have hk := hm k (by simp)
    have := len_sub (zs := zs.erase k) h.2 fun x hx => by
      have ne : x ≠ k := fun e => h.1 (by rw [← e]; exact hx)
      exact (List.mem_erase_of_ne ne).mpr (hm x (by simp [hx]))
    rw [List.length_erase_of_mem hk] at this
    have := List.length_pos_of_mem hk
    rw [List.length_cons]
    omega
theorem dup_less : ∀ {zs : List Int}, ¬ zs.Nodup → ∃ ys : List Int, ys.length < zs.length ∧ ∀ x, x ∈ zs → x ∈ ys
  | [], h => absurd List.nodup_nil h
  | z :: zs, h => by
    by_cases hz : z ∈ zs
    · exact ⟨zs, by simp, fun x hx => by
        rcases List.mem_cons.mp hx with e | hx
        · rw [e]; exact hz
        · exact hx⟩
    · obtain ⟨ys, h1, h2⟩ := dup_less (zs := zs) fun hn => h (List.nodup_cons.mpr ⟨hz, hn⟩)
      exact ⟨z :: ys, by simp; omega, fun x hx => by
        rcases List.mem_cons.mp hx with e | hx
        · rw [e]; simp
        · simp [h2 x hx]⟩
theorem diff_nodup {ks zs : List Int} (h : ks.Nodup) (hm : ∀ k, k ∈ ks ↔ k ∈ zs) : ks.length = zs.length ↔ zs.Nodup := by
  constructor
  · intro e
    by_cases hn : zs.Nodup
    · exact hn
    · obtain ⟨ys, h1, h2⟩ := dup_less hn
      have := len_sub (zs := ys) h fun k hk => h2 k ((hm k).mp hk)
      omega
  · intro hn
    have h1 := len_sub h fun k hk => (hm k).mp hk
    have h2 := len_sub hn fun k hk => (hm k).mpr hk
    omega
@[simp] theorem asDiff_s {ns : List Int} {R : PyData → Prop} : asDiff (.tuple (ns.map .int)) R = (ns.length ≤ 4000 ∧ ∀ ks : List Int, ks.Nodup → (∀ k, k ∈ ks ↔ k ∈ ns) → R (.int (ks.length : Nat))) := by
  apply propext
  constructor
  · rintro ⟨ms, e, h⟩
    have e2 : ns.map PyData.int = ms.map PyData.int := by simpa using e
    have : ns = ms := by
      have := congrArg (List.map fun d => match d with | PyData.int i => i | _ => 0) e2
      simpa [Function.comp_def] using this
    rw [this]
    exact h
  · exact fun h => ⟨ns, rfl, h⟩
theorem any_int {i : Int} {xs : List Int} : ((xs.map PyData.int).any fun z => PyData.eqv z (.int i)) = decide (i ∈ xs) := by
  rw [List.any_map, Bool.eq_iff_iff, List.any_eq_true]
  simp only [Function.comp_apply, eqv_int, decide_eq_true_eq]
  constructor
  · rintro ⟨x, hx, e⟩
    have : x = i := by simpa using e
    rw [← this]; exact hx
  · exact fun hx => ⟨i, hx, by simp⟩
@[simp] theorem fIn_I {neg : Bool} {i : Int} {xs : List Int} {R : PyData → Prop} : fIn neg (.int i) (.list (xs.map .int)) R = R (.bool (neg != decide (i ∈ xs))) := by
  show (sh (.int i) ∧ sh (.list (xs.map PyData.int)) ∧ R (.bool (neg != (xs.map PyData.int).any fun z => PyData.eqv z (.int i)))) = _
  rw [any_int, sh_int, sh_ints]
  simp
@[simp] theorem fIn_IT {neg : Bool} {i : Int} {xs : List Int} {R : PyData → Prop} : fIn neg (.int i) (.tuple (xs.map .int)) R = R (.bool (neg != decide (i ∈ xs))) := by
  have h : (xs.map PyData.int).all flatD = true := by
    rw [List.all_map, List.all_eq_true]
    exact fun _ _ => rfl
  show (flatD (.int i) = true ∧ (xs.map PyData.int).all flatD = true ∧ R (.bool (neg != (xs.map PyData.int).any fun z => PyData.eqv z (.int i)))) = _
  rw [any_int, h]
  simp [flatD]
end Wx

namespace Wx
open PySem PySem.Spec PyProof.Rows L2
/-! ### the least of a list of numbers -/
theorem items_of : ∀ {ns : List Int} {us : List Value}, Vals (ns.map V.int) us → ∃ xs : List (Int × Tok), us = xs.map (fun p => Value.int p.1 p.2) ∧ xs.map (·.1) = ns
  | [], _, .nil => ⟨[], rfl, rfl⟩
  | m :: ms, _, .cons q w => by
    obtain ⟨j, hj⟩ := q
    obtain ⟨xs, e1, e2⟩ := items_of w
    exact ⟨(m, j) :: xs, by rw [hj, e1]; rfl, by rw [List.map_cons, e2]⟩
def rLeast (K : PySem.W.Frag) : List V → Hp → VK → Prop := fun vs H Q => ∃ (l : Addr) (ns : List Int), vs = [.ref l] ∧ SqL K H l (ns.map V.int) ∧ 0 < ns.length ∧ ∀ m, m ∈ ns → (∀ a ∈ ns, m ≤ a) → Q (.int m) H
theorem call_least {X : Cx} (hc : X.calm = true) : CallR X (.builtin "min") (rLeast X.K) := by
  intro pins s σ H vs us Q I r h
  obtain ⟨l, ns, rfl, hs, hne, q⟩ := h
  obtain ⟨its, rv, hl, _⟩ := I.list hs
  rw [Vals.ref1 r]
  obtain ⟨xs, e1, e2⟩ := items_of rv
  have ei : its.toArray = intItems xs.toArray := by
    rw [e1]
    simp [intItems]
  have hl2 := hl.isList
  rw [ei] at hl2
  have hlen : xs.length = ns.length := by rw [← e2]; simp
  have num : ∀ i (hi : i < xs.length), numAt xs.toArray i = ns[i]'(by omega) := fun i hi => by
    subst e2
    simp [numAt, hi]
  refine min_intList (I.ok.hd hc) hl2 (by simp; omega) fun v h' tk hv hk => ?_
  obtain ⟨t, ev⟩ := intItems_at hv
  obtain ⟨b1, b2⟩ := argBest_lt (numAt xs.toArray) (xs.toArray.size - 1)
  generalize argBest (fun i j => decide (numAt xs.toArray i < numAt xs.toArray j)) (xs.toArray.size - 1) = j at *
  have hj : j < xs.length := by simp at b1; omega
  refine ⟨.int (numAt xs.toArray j), H, I.kept hk, by rw [ev]; exact ⟨t, rfl⟩, q _ ?_ fun a ha => ?_⟩
  · rw [num j hj]
    exact List.getElem_mem _
  · obtain ⟨i, hi, e⟩ := List.getElem_of_mem ha
    have := b2 i (by simp; omega)
    rw [num i (by omega), e] at this
    exact this
def fLeast : FC := fun ds R => ∃ ns : List Int, ds = [.list (ns.map .int)] ∧ 0 < ns.length ∧ ∀ m, m ∈ ns → (∀ a ∈ ns, m ≤ a) → R (.int m)
theorem least_ok {K : PySem.W.Frag} : RCOk (rLeast K) fLeast := fun G H vs ds R Q s rr ⟨ns, e, hn, hR⟩ k => by
  subst e
  cases rr with
  | cons r1 r0 =>
    cases r0
    cases r1 with
    | @lst a xs es h1 a1 =>
      have e := a1.ints
      subst e
      exact ⟨a, ns, rfl, SqL.of (s _ _ h1), hn, fun m h1 h2 => k _ G H _ Ext.refl s (.int _) (hR m h1 h2)⟩
theorem b_least {X : Cx} {W : WX} {pos p : Pos} {e : Expr} {da : DA} (fr : Fr X.mg) (hc : X.calm = true) (ha : QA X W [e] da) (hg : Gl X "min" := by rfl) (he : starEach [e] X.env = (false, eval e X.env) :: starEach [] X.env := by rfl) : QE X W (.Call (.Name "min" p) [e] [] pos) (dCB fLeast da) := q_callB (call_least hc) least_ok fr.min ha hg bv_min (by decide) (by decide) he rfl
end Wx
namespace Wx
open PySem PySem.Spec PyProof.Rows L2
def topS (i : Nat) : Stmt := PySem.Challenge.pw_waxcloth_k11_why_they_clash.main.body.getD i (.Pass ⟨0, 0, 0, 0⟩)
def dfn (a : Str × Option Str) (x q : Str) (s : Stmt) : He.DefD := ⟨a, x, q, defArgs s, defBody s, defScope s, [], []⟩
def fns0 : List He.DefD := [
  dfn ("gap", none) "gap" "gap" (topS 1),
  dfn ("lacks", none) "lacks" "lacks" (topS 2),
  dfn ("free_now", none) "free_now" "free_now" (topS 5),
  dfn ("within", none) "within" "within" (topS 6),
  dfn ("beneath", none) "beneath" "beneath" (topS 7),
  dfn ("clash", none) "clash" "clash" (topS 8),
  dfn ("least_only", none) "least_only" "least_only" (topS 9),
  dfn ("least_waxed", none) "least_waxed" "least_waxed" (topS 10),
  dfn ("apart", none) "apart" "apart" (topS 11),
  dfn ("_law_whole", none) "_law_whole" "_law_whole" (topS 13),
  dfn ("_law_wholes", none) "_law_wholes" "_law_wholes" (topS 14),
  dfn ("_law_box", none) "_law_box" "_law_box" (topS 15),
  dfn ("_law_mixed", none) "_law_mixed" "_law_mixed" (topS 16),
  dfn ("_law_take", none) "_law_take" "_law_take" (topS 17),
  dfn ("_law_lacks", none) "_law_lacks" "_law_lacks" (topS 18),
  dfn ("_law_cell", none) "_law_cell" "_law_cell" (topS 19),
  dfn ("_law_bolt", none) "_law_bolt" "_law_bolt" (topS 20),
  dfn ("_law_sizes", none) "_law_sizes" "_law_sizes" (topS 21),
  dfn ("_law_lack", none) "_law_lack" "_law_lack" (topS 22),
  dfn ("_law_need", none) "_law_need" "_law_need" (topS 23),
  dfn ("_law_under", none) "_law_under" "_law_under" (topS 24),
  dfn ("_law_clash", none) "_law_clash" "_law_clash" (topS 25),
  dfn ("_law_pairs", none) "_law_pairs" "_law_pairs" (topS 26),
  dfn ("_law_reason", none) "_law_reason" "_law_reason" (topS 27)]
def fns1 : List He.DefD := [
  dfn ("law", none) "law" "law" (topS 28)]
def fns : List He.DefD := fns0 ++ fns1
def fas0 : List He.Fa := [
  .glo "gap",
  .glo "lacks",
  .int "NOW" 12,
  .glo "free_now",
  .glo "within",
  .glo "beneath",
  .glo "clash",
  .glo "least_only",
  .glo "least_waxed",
  .glo "apart",
  .glo "_law_whole",
  .glo "_law_wholes",
  .glo "_law_box",
  .glo "_law_mixed",
  .glo "_law_take",
  .glo "_law_lacks",
  .glo "_law_cell",
  .glo "_law_bolt",
  .glo "_law_sizes",
  .glo "_law_lack",
  .glo "_law_need",
  .glo "_law_under",
  .glo "_law_clash",
  .glo "_law_pairs"]
def fas1 : List He.Fa := [
  .glo "_law_reason",
  .glo "law",
  .free "len",
  .free "list",
  .free "tuple",
  .free "range",
  .free "isinstance",
  .free "int",
  .free "bool",
  .free "str",
  .free "dict",
  .free "all",
  .free "any",
  .free "sorted",
  .free "min",
  .free "max",
  .free "set",
  .free "enumerate",
  .free "reversed",
  .free "zip"]
def fas : List He.Fa := fas0 ++ fas1
abbrev R : PySem.W.OpenRow := PySem.W.OpenLaw.row PySem.Challenge.rw_waxcloth_k11_why_they_clash
abbrev hk : PySem.W.Hook := He.hookD 6 fas fns
def ob (s : PySem.W.SharedT) : He.AlD := He.obsDG 6 fas fns (HandSHeadRun.getT s)
theorem ob_eq (s : PySem.W.SharedT) : ob s = hk.obs s.abs := He.obsDG_eq (HandSHeadRun.getT_eq s)
def names0 : List PySem.Str := [
  "gap",
  "lacks",
  "NOW",
  "free_now",
  "within",
  "beneath",
  "clash",
  "least_only",
  "least_waxed",
  "apart",
  "_law_whole",
  "_law_wholes",
  "_law_box",
  "_law_mixed",
  "_law_take",
  "_law_lacks",
  "_law_cell",
  "_law_bolt",
  "_law_sizes",
  "_law_lack",
  "_law_need",
  "_law_under",
  "_law_clash",
  "_law_pairs"]
def names1 : List PySem.Str := [
  "_law_reason"]
def names : List PySem.Str := names0 ++ names1
theorem run (w : World) : HandSHeadRun.RunEq R (PySem.W.view R.prog [28]) hk ob 12000 names w :=
  PySem.W.byRow2 "special-get-raises" (P := fun w => HandSHeadRun.RunEq R (PySem.W.view R.prog [28]) hk ob 12000 names w) (fun w os => by kernel_rfl) (fun w os => by kernel_rfl) w
end Wx
namespace Wx
open PySem PySem.Spec PyProof.Rows L2
def CellD (c : Cell) (d : Nat) : Prop := c.st.length ≤ 65536 ∧ c.ws.length ≤ 65536 ∧ d < c.st.length ∧ d < c.ws.length
def sp_gap : DSp := fun as R _ => ∃ (c : Cell) (d : Nat), as = [.dat (dC1 c), .dat (.int d)] ∧ CellD c d ∧ R (.int (sd c.ws d - sd c.st d))
theorem len_gap : ∀ as R Xn, sp_gap as R Xn → as.length = 2 := fun _ _ _ ⟨_, _, e, _⟩ => by rw [e]; rfl
def d_gap : DS := dRet (dOp fSub (dOp fIx (dOp fIx (dVar 0) (dC (.int 2))) (dVar 1)) (dOp fIx (dOp fIx (dVar 0) (dC (.int 0))) (dVar 1)))
theorem pure_gap : ∀ as R Xn, sp_gap as R Xn → d_gap { nx := fun _ => R .none, rt := R } (startE 2 as) := by
  rintro _ R _ ⟨c, d, rfl, ⟨h1, h2, h3, h4⟩, hR⟩
  have z1 : c.st.length ≤ sizeLine := by simp [sizeL]; omega
  have z2 : c.ws.length ≤ sizeLine := by simp [sizeL]; omega
  simp [d_gap, z1, z2, atI_sd h3, atI_sd h4]
  exact ⟨by simp [sizeL], hR⟩

def sp_lacks : DSp := fun as R _ => ∃ (c : Cell) (d : Nat), as = [.dat (dC1 c), .dat (.int d)] ∧ CellD c d ∧ R (.bool (lacksC c d))
theorem len_lacks : ∀ as R Xn, sp_lacks as R Xn → as.length = 2 := fun _ _ _ ⟨_, _, e, _⟩ => by rw [e]; rfl
def d_lacks : DS := dRet (dOp fGt (dCall sp_gap (dCons (dVar 0) (dCons (dVar 1) (dNil)))) (dC (.int 0)))
theorem pure_lacks : ∀ as R Xn, sp_lacks as R Xn → d_lacks { nx := fun _ => R .none, rt := R } (startE 2 as) := by
  rintro _ R _ ⟨c, d, rfl, h, hR⟩
  simp [d_lacks]
  refine ⟨c, d, rfl, h, ?_⟩
  simp
  have e : decide (sd c.st d < sd c.ws d) = decide (0 < sd c.ws d - sd c.st d) := by
    rw [Bool.eq_iff_iff]; simp
  simpa [lacksC, e] using hR

def sp_free_now : DSp := fun as R _ => ∃ (b : List Cell) (n o : Nat), as = [.dat (dB b), .dat (.int o)] ∧ Sized n b ∧ o < n ∧ R (.bool (freeB b o))
theorem len_free_now : ∀ as R Xn, sp_free_now as R Xn → as.length = 2 := fun _ _ _ ⟨_, _, _, e, _⟩ => by rw [e]; rfl
def d_free_now : DS := dRet (dNotV (dCB fAny (dCons (dFz (dLc (iSeqD (dVar 0)) (.nm 2) (dYes) (dAndV (dOp fIx (dVar 2) (dC (.int 1))) (dCall sp_lacks (dCons (dVar 2) (dCons (dVar 1) (dNil))))) [2])) (dNil))))
theorem pure_free_now : ∀ as R Xn, sp_free_now as R Xn → d_free_now { nx := fun _ => R .none, rt := R } (startE 3 as) := by
  rintro _ R _ ⟨b, n, d, rfl, ⟨h1, h2, h3⟩, hd, hR⟩
  simp [d_free_now]
  refine lc_map dC1 (fun c => .bool (c.wx && lacksC c d)) b (by simp [sizeL]; omega) (fun c hc => ⟨_, rfl, fun Q q => ?_⟩) ?_
  · obtain ⟨h4, h5⟩ := h3 c hc
    simp [sizeL]
    cases hw : c.wx with
    | false => simpa [hw] using q
    | true =>
      simp
      exact ⟨c, d, rfl, ⟨by omega, by omega, by omega, by omega⟩, by simpa [hw] using q⟩
  · refine fAny_m (f := fun c => c.wx && lacksC c d) ?_
    simpa [freeB] using hR

def sp_within : DSp := fun as R _ => ∃ (b : List Cell) (n o p : Nat), as = [.dat (dB b), .dat (.int o), .dat (.int p)] ∧ Sized n b ∧ o < n ∧ p < n ∧ R (.bool (withinB b o p))
theorem len_within : ∀ as R Xn, sp_within as R Xn → as.length = 3 := fun _ _ _ ⟨_, _, _, _, e, _⟩ => by rw [e]; rfl
def d_within : DS := dSeq (dSet 3 (dC (.bool true)))
  (dSeq (dFor (iSeqD (dVar 0)) (.nm 4) (dSeq (dIfS (dAndT (dTru (dCall sp_lacks (dCons (dVar 4) (dCons (dVar 1) (dNil))))) (dNotT (dTru (dCall sp_lacks (dCons (dVar 4) (dCons (dVar 2) (dNil))))))) (dRet (dC (.bool false))) (dNext))
  (dIfS (dAndT (dTru (dCall sp_lacks (dCons (dVar 4) (dCons (dVar 2) (dNil))))) (dNotT (dTru (dCall sp_lacks (dCons (dVar 4) (dCons (dVar 1) (dNil))))))) (dSet 3 (dC (.bool false))) (dNext))))
  (dRet (dOrV (dNotV (dVar 3)) (dOp fGt (dVar 1) (dVar 2)))))
theorem pure_within : ∀ as R Xn, sp_within as R Xn → d_within { nx := fun _ => R .none, rt := R } (startE 5 as) := by
  rintro _ R _ ⟨b, n, o, p, rfl, ⟨h1, h2, h3⟩, ho, hp, hR⟩
  simp [d_within]
  refine for_inv (fun items E => ∃ (r : List Cell) (a : Bool) (y : En), items = r.map dC1 ∧ (∀ c ∈ r, c ∈ b) ∧ (withinB b o p = (subB r o p && ((!a || !subB r p o) || decide (p < o)))) ∧ E = [.dat (dB b), .dat (.int o), .dat (.int p), .dat (.bool a), y]) ?_ ?_ _ _ ⟨b, true, _, rfl, fun _ h => h, by simp [withinB], rfl⟩
  · rintro E ⟨r, a, y, e, _, hw, rfl⟩
    cases r with
    | cons => simp at e
    | nil =>
      simp [subB] at hw
      rw [hw] at hR
      cases a <;> simpa using hR
  · rintro x r E ⟨r', a, y, e, hm, hw, rfl⟩
    cases r' with
    | nil => simp at e
    | cons c r' =>
      simp at e
      obtain ⟨rfl, rfl⟩ := e
      obtain ⟨h4, h5⟩ := h3 c (hm c (by simp))
      have cd : ∀ d, d < n → CellD c d := fun d hd => ⟨by omega, by omega, by omega, by omega⟩
      refine ⟨_, rfl, fun N hN => ?_⟩
      have q : ∀ a' : Bool, (withinB b o p = (subB r' o p && ((!a' || !subB r' p o) || decide (p < o)))) → N [.dat (dB b), .dat (.int o), .dat (.int p), .dat (.bool a'), .dat (dC1 c)] := fun a' h => hN _ ⟨r', a', _, rfl, fun c hc => hm c (by simp [hc]), h, rfl⟩
      have su : ∀ x y, subB (c :: r') x y = ((!lacksC c x || lacksC c y) && subB r' x y) := fun x y => by simp [subB]
      rw [su, su] at hw
      simp
      refine ⟨c, o, rfl, cd o ho, ?_⟩
      cases l1 : lacksC c o with
      | false =>
        simp
        refine ⟨c, p, rfl, cd p hp, ?_⟩
        cases l2 : lacksC c p with
        | false =>
          simp
          exact q a (by simpa [l1, l2] using hw)
        | true =>
          simp
          refine ⟨c, o, rfl, cd o ho, ?_⟩
          simp [l1]
          exact q false (by simpa [l1, l2] using hw)
      | true =>
        simp
        refine ⟨c, p, rfl, cd p hp, ?_⟩
        cases l2 : lacksC c p with
        | false =>
          have : withinB b o p = false := by simpa [l1, l2] using hw
          rw [this] at hR
          simp
          exact hR
        | true =>
          simp
          refine ⟨c, p, rfl, cd p hp, ?_⟩
          simp [l2]
          refine ⟨c, o, rfl, cd o ho, ?_⟩
          simp [l1]
          exact q a (by simpa [l1, l2] using hw)

def Memb (n o : Nat) : Prop := o < n ∨ o = 12
def sp_beneath : DSp := fun as R _ => ∃ (b : List Cell) (n o p : Nat), as = [.dat (dB b), .dat (.int o), .dat (.int p)] ∧ Sized n b ∧ Memb n o ∧ Memb n p ∧ R (.bool (beneathB b o p))
theorem len_beneath : ∀ as R Xn, sp_beneath as R Xn → as.length = 3 := fun _ _ _ ⟨_, _, _, _, e, _⟩ => by rw [e]; rfl
def d_beneath : DS := dSeq (dIfS (dOrT (dTB (dOp fEq (dVar 1) (dVar 2))) (dTB (dOp fEq (dVar 1) (dC (.int 12))))) (dRet (dC (.bool false))) (dNext))
  (dSeq (dIfS (dTB (dOp fEq (dVar 2) (dC (.int 12)))) (dRet (dCall sp_free_now (dCons (dVar 0) (dCons (dVar 1) (dNil))))) (dNext))
  (dRet (dCall sp_within (dCons (dVar 0) (dCons (dVar 1) (dCons (dVar 2) (dNil)))))))
theorem int12 {o : Nat} : ((o : Int) = 12) = (o = 12) := propext ⟨fun h => by omega, fun h => by omega⟩
theorem intEq {o p : Nat} : ((o : Int) = (p : Int)) = (o = p) := propext ⟨fun h => by omega, fun h => by omega⟩
theorem intLt {o p : Nat} : ((o : Int) < (p : Int)) = (o < p) := propext ⟨fun h => by omega, fun h => by omega⟩
theorem pure_beneath : ∀ as R Xn, sp_beneath as R Xn → d_beneath { nx := fun _ => R .none, rt := R } (startE 3 as) := by
  rintro _ R _ ⟨b, n, o, p, rfl, h, ho, hp, hR⟩
  simp [d_beneath, int12, intEq]
  unfold beneathB at hR
  by_cases e1 : o = p
  · simp [e1] at hR ⊢
    exact hR
  · by_cases e2 : o = 12
    · simp [e2] at hR
      simp [e1, e2]
      exact ⟨fun _ => hR, fun _ => hR⟩
    · rw [if_neg (by simp [e1, e2])] at hR
      have ho' : o < n := ho.resolve_right e2
      by_cases e3 : p = 12
      · rw [if_pos e3] at hR
        simp [e1, e2, e3]
        exact ⟨b, n, o, rfl, h, ho', hR⟩
      · rw [if_neg e3] at hR
        simp [e1, e2, e3]
        exact ⟨b, n, o, p, rfl, h, ho', hp.resolve_right e3, hR⟩

def sp_clash : DSp := fun as R _ => ∃ (b : List Cell) (n o p : Nat), as = [.dat (dB b), .dat (.int o), .dat (.int p)] ∧ Sized n b ∧ Memb n o ∧ Memb n p ∧ R (.bool (clashB b o p))
theorem len_clash : ∀ as R Xn, sp_clash as R Xn → as.length = 3 := fun _ _ _ ⟨_, _, _, _, e, _⟩ => by rw [e]; rfl
def d_clash : DS := dRet (dAndV (dOp fNe (dVar 1) (dVar 2)) (dAndV (dNotV (dCall sp_beneath (dCons (dVar 0) (dCons (dVar 1) (dCons (dVar 2) (dNil)))))) (dNotV (dCall sp_beneath (dCons (dVar 0) (dCons (dVar 2) (dCons (dVar 1) (dNil))))))))
theorem pure_clash : ∀ as R Xn, sp_clash as R Xn → d_clash { nx := fun _ => R .none, rt := R } (startE 3 as) := by
  rintro _ R Xn ⟨b, n, o, p, rfl, hs, ho, hp, hR⟩
  have e : ((o : Int) = (p : Int)) = (o = p) := propext ⟨fun h => by omega, fun h => by omega⟩
  simp [d_clash, e]
  unfold clashB at hR
  by_cases h : o = p
  · simpa [h] using hR
  · simp [h] at hR ⊢
    refine ⟨b, n, o, p, rfl, hs, ho, hp, ?_⟩
    cases h1 : beneathB b o p with
    | true => simpa [h1] using hR
    | false =>
      simp [h1] at hR ⊢
      exact ⟨b, n, p, o, rfl, hs, hp, ho, by simpa using hR⟩

def optD : Option Nat → PyData
  | none => .none
  | some i => .int i
def onlyB (b : List Cell) (o p : Nat) (i : Nat) : Bool := lacksC (cellAt b i) o && !lacksC (cellAt b i) p
def leastO (b : List Cell) (o p : Nat) : Option Nat := (List.range b.length).find? (onlyB b o p)
def sp_least_only : DSp := fun as R _ => ∃ (b : List Cell) (n o p : Nat), as = [.dat (dB b), .dat (.int o), .dat (.int p)] ∧ Sized n b ∧ o < n ∧ p < n ∧ R (optD (leastO b o p))
theorem len_least_only : ∀ as R Xn, sp_least_only as R Xn → as.length = 3 := fun _ _ _ ⟨_, _, _, _, e, _⟩ => by rw [e]; rfl
def d_least_only : DS := dSeq (dFor (iEnumD (dVar 0)) (.tp [3, 4]) (dIfS (dAndT (dTru (dCall sp_lacks (dCons (dVar 4) (dCons (dVar 1) (dNil))))) (dNotT (dTru (dCall sp_lacks (dCons (dVar 4) (dCons (dVar 2) (dNil))))))) (dRet (dVar 3)) (dNext)))
  (dRet (dC .none))
theorem pure_least_only : ∀ as R Xn, sp_least_only as R Xn → d_least_only { nx := fun _ => R .none, rt := R } (startE 5 as) := by
  rintro _ R Xn ⟨b, n, o, p, rfl, ⟨h1, h2, h3⟩, ho, hp, hR⟩
  simp [d_least_only, enumD]
  refine for_inv (fun items E => ∃ (r : List Nat) (a3 a4 : En), items = r.map (fun i => PyData.tuple [.int (i : Nat), (b[i]?.map dC1).getD .none]) ∧ (∀ i ∈ r, i < b.length) ∧ r.find? (onlyB b o p) = leastO b o p ∧ E = [.dat (dB b), .dat (.int o), .dat (.int p), a3, a4]) ?_ ?_ _ _ ⟨List.range b.length, _, _, rfl, by simp, rfl, rfl⟩
  · rintro E ⟨r, a3, a4, e, _, hf, rfl⟩
    cases r with
    | cons => simp at e
    | nil =>
      rw [List.find?_nil] at hf
      rw [← hf] at hR
      simp
      exact hR
  · rintro x r E ⟨r', a3, a4, e, hr, hf, rfl⟩
    cases r' with
    | nil => simp at e
    | cons i r' =>
      simp at e
      obtain ⟨rfl, rfl⟩ := e
      have hi : i < b.length := hr i (by simp)
      have ec : (b[i]?.map dC1).getD .none = dC1 (cellAt b i) := by simp [cellAt, hi]
      obtain ⟨h4, h5⟩ := h3 _ (cellAt_mem hi)
      have cd : ∀ d, d < n → CellD (cellAt b i) d := fun d hd => ⟨by omega, by omega, by omega, by omega⟩
      refine ⟨_, rfl, fun N hN => ?_⟩
      have q : onlyB b o p i = false → N [.dat (dB b), .dat (.int o), .dat (.int p), .dat (.int i), .dat (dC1 (cellAt b i))] := fun h => hN _ ⟨r', _, _, rfl, fun j hj => hr j (by simp [hj]), by rw [← hf, List.find?_cons, h], rfl⟩
      have rr : onlyB b o p i = true → R (.int i) := fun h => by
        rw [List.find?_cons, h] at hf
        rw [← hf] at hR
        exact hR
      simp [ec]
      refine ⟨_, o, rfl, cd o ho, ?_⟩
      cases l1 : lacksC (cellAt b i) o with
      | false =>
        simp
        exact q (by simp [onlyB, l1])
      | true =>
        simp
        refine ⟨_, p, rfl, cd p hp, ?_⟩
        cases l2 : lacksC (cellAt b i) p with
        | false =>
          simp
          exact rr (by simp [onlyB, l1, l2])
        | true =>
          simp
          exact q (by simp [onlyB, l1, l2])

def waxL (b : List Cell) (o : Nat) (i : Nat) : Bool := (cellAt b i).wx && lacksC (cellAt b i) o
def leastW (b : List Cell) (o : Nat) : Option Nat := (List.range b.length).find? (waxL b o)
def sp_least_waxed : DSp := fun as R _ => ∃ (b : List Cell) (n o : Nat), as = [.dat (dB b), .dat (.int o)] ∧ Sized n b ∧ o < n ∧ R (optD (leastW b o))
theorem len_least_waxed : ∀ as R Xn, sp_least_waxed as R Xn → as.length = 2 := fun _ _ _ ⟨_, _, _, e, _⟩ => by rw [e]; rfl
def d_least_waxed : DS := dSeq (dFor (iEnumD (dVar 0)) (.tp [2, 3]) (dIfS (dAndT (dTru (dOp fIx (dVar 3) (dC (.int 1)))) (dTru (dCall sp_lacks (dCons (dVar 3) (dCons (dVar 1) (dNil)))))) (dRet (dVar 2)) (dNext)))
  (dRet (dC .none))
theorem pure_least_waxed : ∀ as R Xn, sp_least_waxed as R Xn → d_least_waxed { nx := fun _ => R .none, rt := R } (startE 4 as) := by
  rintro _ R Xn ⟨b, n, o, rfl, ⟨h1, h2, h3⟩, ho, hR⟩
  simp [d_least_waxed, enumD]
  refine for_inv (fun items E => ∃ (r : List Nat) (a3 a4 : En), items = r.map (fun i => PyData.tuple [.int (i : Nat), (b[i]?.map dC1).getD .none]) ∧ (∀ i ∈ r, i < b.length) ∧ r.find? (waxL b o) = leastW b o ∧ E = [.dat (dB b), .dat (.int o), a3, a4]) ?_ ?_ _ _ ⟨List.range b.length, _, _, rfl, by simp, rfl, rfl⟩
  · rintro E ⟨r, a3, a4, e, _, hf, rfl⟩
    cases r with
    | cons => simp at e
    | nil =>
      rw [List.find?_nil] at hf
      rw [← hf] at hR
      simp
      exact hR
  · rintro x r E ⟨r', a3, a4, e, hr, hf, rfl⟩
    cases r' with
    | nil => simp at e
    | cons i r' =>
      simp at e
      obtain ⟨rfl, rfl⟩ := e
      have hi : i < b.length := hr i (by simp)
      have ec : (b[i]?.map dC1).getD .none = dC1 (cellAt b i) := by simp [cellAt, hi]
      obtain ⟨h4, h5⟩ := h3 _ (cellAt_mem hi)
      refine ⟨_, rfl, fun N hN => ?_⟩
      have q : waxL b o i = false → N [.dat (dB b), .dat (.int o), .dat (.int i), .dat (dC1 (cellAt b i))] := fun h => hN _ ⟨r', _, _, rfl, fun j hj => hr j (by simp [hj]), by rw [← hf, List.find?_cons, h], rfl⟩
      have rr : waxL b o i = true → R (.int i) := fun h => by
        rw [List.find?_cons, h] at hf
        rw [← hf] at hR
        exact hR
      simp [ec, sizeL]
      cases hw : (cellAt b i).wx with
      | false =>
        simp
        exact q (by simp [waxL, hw])
      | true =>
        simp
        refine ⟨cellAt b i, o, rfl, ⟨by omega, by omega, by omega, by omega⟩, ?_⟩
        cases l2 : lacksC (cellAt b i) o with
        | false =>
          simp
          exact q (by simp [waxL, l2])
        | true =>
          simp
          exact rr (by simp [waxL, hw, l2])

def reasonD (b : List Cell) (o p : Nat) : PyData := if clashB b o p = false then .none else if o = 12 then .tuple [optD (leastW b p)] else if p = 12 then .tuple [optD (leastW b o)] else .tuple [optD (leastO b o p), optD (leastO b p o)]
def sp_apart : DSp := fun as R _ => ∃ (b : List Cell) (n o p : Nat), as = [.dat (dB b), .dat (.int o), .dat (.int p)] ∧ Sized n b ∧ Memb n o ∧ Memb n p ∧ R (reasonD b o p)
theorem len_apart : ∀ as R Xn, sp_apart as R Xn → as.length = 3 := fun _ _ _ ⟨_, _, _, _, e, _⟩ => by rw [e]; rfl
def d_apart : DS := dSeq (dIfS (dNotT (dTru (dCall sp_clash (dCons (dVar 0) (dCons (dVar 1) (dCons (dVar 2) (dNil))))))) (dRet (dC .none)) (dNext))
  (dSeq (dIfS (dTB (dOp fEq (dVar 1) (dC (.int 12)))) (dRet (dTup (dCons (dCall sp_least_waxed (dCons (dVar 0) (dCons (dVar 2) (dNil)))) (dNil)))) (dNext))
  (dSeq (dIfS (dTB (dOp fEq (dVar 2) (dC (.int 12)))) (dRet (dTup (dCons (dCall sp_least_waxed (dCons (dVar 0) (dCons (dVar 1) (dNil)))) (dNil)))) (dNext))
  (dRet (dTup (dCons (dCall sp_least_only (dCons (dVar 0) (dCons (dVar 1) (dCons (dVar 2) (dNil))))) (dCons (dCall sp_least_only (dCons (dVar 0) (dCons (dVar 2) (dCons (dVar 1) (dNil))))) (dNil)))))))
theorem pure_apart : ∀ as R Xn, sp_apart as R Xn → d_apart { nx := fun _ => R .none, rt := R } (startE 3 as) := by
  rintro _ R Xn ⟨b, n, o, p, rfl, hs, ho, hp, hR⟩
  simp [d_apart, int12]
  refine ⟨b, n, o, p, rfl, hs, ho, hp, ?_⟩
  unfold reasonD at hR
  cases hc : clashB b o p with
  | false =>
    rw [if_pos hc] at hR
    simp
    exact hR
  | true =>
    rw [if_neg (by rw [hc]; exact Bool.noConfusion)] at hR
    have hop : o ≠ p := fun e => by simp [clashB, e] at hc
    by_cases h1 : o = 12
    · rw [if_pos h1] at hR
      have h2 : p < n := hp.resolve_right fun e => hop (by rw [h1, e])
      simp [h1, sizeL]
      exact ⟨b, n, p, rfl, hs, h2, hR⟩
    · rw [if_neg h1] at hR
      have h1' : o < n := ho.resolve_right h1
      by_cases h2 : p = 12
      · rw [if_pos h2] at hR
        simp [h1, h2, sizeL]
        exact ⟨b, n, o, rfl, hs, h1', hR⟩
      · rw [if_neg h2] at hR
        have h2' : p < n := hp.resolve_right h2
        simp [h1, h2, sizeL]
        exact ⟨b, n, o, p, rfl, hs, h1', h2', b, n, p, o, rfl, hs, h2', h1', hR⟩

def wholeD : PyData → Bool
  | .int _ => true
  | _ => false
def sp_law_whole : DSp := fun as R _ => ∃ d : PyData, as = [.dat d] ∧ R (.bool (wholeD d))
theorem len_law_whole : ∀ as R Xn, sp_law_whole as R Xn → as.length = 1 := fun _ _ _ ⟨_, e, _⟩ => by rw [e]; rfl
def d_law_whole : DS := dRet (dAndV (dIsi "int" (dVar 0)) (dNotV (dIsi "bool" (dVar 0))))
theorem isD_dict {T : String} {kvs : List (PyData × PyData)} (h : T ≠ "dict") : isD T (.dict kvs) = false := by
  have h2 : "dict" ≠ T := Ne.symm h
  simp [isD, isS, tyD, h2]
theorem pure_law_whole : ∀ as R Xn, sp_law_whole as R Xn → d_law_whole { nx := fun _ => R .none, rt := R } (startE 1 as) := by
  rintro _ R _ ⟨d, rfl, hR⟩
  simp [d_law_whole]
  cases d <;> simpa [wholeD, isD_dict] using hR

def sp_law_wholes : DSp := fun as R _ => ∃ xs : List Nat, as = [.dat (dN xs)] ∧ xs.length ≤ 65536 ∧ R (.bool true)
theorem len_law_wholes : ∀ as R Xn, sp_law_wholes as R Xn → as.length = 1 := fun _ _ _ ⟨_, e, _⟩ => by rw [e]; rfl
def d_law_wholes : DS := dRet (dAndV (dIsi "list" (dVar 0)) (dCB fAll (dCons (dFz (dLc (iSeqD (dVar 0)) (.nm 1) (dYes) (dCall sp_law_whole (dCons (dVar 1) (dNil))) [1])) (dNil))))
theorem pure_law_wholes : ∀ as R Xn, sp_law_wholes as R Xn → d_law_wholes { nx := fun _ => R .none, rt := R } (startE 2 as) := by
  rintro _ R _ ⟨xs, rfl, hp, hR⟩
  have hs : xs.length ≤ sizeLine := by simp only [sizeL]; omega
  simp [d_law_wholes]
  refine lc_map natI (fun i => .bool true) _ hs (fun x _ => ⟨_, rfl, fun Q q => ?_⟩) ?_
  · simp
    exact ⟨_, rfl, q⟩
  · refine fAll_m (f := fun _ => true) ?_
    rw [show (xs.all fun _ => true) = true from List.all_eq_true.mpr fun _ _ => rfl]
    exact hR

abbrev encBs (r : List Bool) : PyData := .list (r.map .bool)
def sp_law_lacks : DSp := fun as R _ => ∃ n m : Nat, as = [.box, .dat (.int n), .dat (.int m)] ∧ n ≤ 64 ∧ m ≤ 64 ∧ ∀ rows : List (List Bool), rows.length = m → (∀ r ∈ rows, r.length = n) → R (.list (rows.map encBs))
theorem len_law_lacks : ∀ as R Xn, sp_law_lacks as R Xn → as.length = 3 := fun _ _ _ ⟨_, _, e, _⟩ => by rw [e]; rfl
def d_law_lacks : DS := dSeq (dSet 3 (dCall sp_take (dBoxA 0 (dCons (dC (.int 4)) (dNil)))))
  (dSeq (dSet 4 (dFz (dLc (iRngD (dVar 1)) (.nm 10) (dYes) (dTup (dCons (dCall sp_take (dBoxA 0 (dCons (dOp fAdd (dVar 2) (dC (.int 1))) (dNil)))) (dCons (dCall sp_take (dBoxA 0 (dCons (dOp fAdd (dVar 2) (dC (.int 1))) (dNil)))) (dNil)))) [10])))
  (dSeq (dSetO 5 (dLst (dNil)))
  (dSeq (dFor (iRngD (dVar 2)) (.nm 6) (dSeq (dSetO 7 (dLst (dNil)))
  (dSeq (dFor (iSeqD (dVar 4)) (.tp [8, 9]) (dIfS (dTB (dOp fEq (dVar 3) (dC (.int 0)))) (dApp 7 (dOp fEq (dCall sp_take (dBoxA 0 (dCons (dC (.int 2)) (dNil)))) (dC (.int 1)))) (dIfS (dTB (dOp fEq (dVar 3) (dC (.int 1)))) (dApp 7 (dChain fLe fLt (dCB fMin2 (dCons (dVar 8) (dCons (dVar 9) (dNil)))) (dVar 6) (dCB fMax2 (dCons (dVar 8) (dCons (dVar 9) (dNil)))))) (dIfS (dTB (dOp fEq (dVar 3) (dC (.int 2)))) (dApp 7 (dOp fLt (dVar 6) (dVar 8))) (dApp 7 (dOp fNe (dOp fLt (dVar 6) (dVar 8)) (dOp fEq (dVar 6) (dVar 9))))))))
  (dFrz 7 (dApp 5 (dVar 7))))))
  (dRetL 5))))
theorem pure_law_lacks : ∀ as R Xn, sp_law_lacks as R Xn → d_law_lacks { nx := fun _ => R .none, rt := R } (startE 11 as) := by
  rintro _ R _ ⟨n, m, rfl, hn, hm, hR⟩
  simp [d_law_lacks, sp_take, rng_map]
  intro w hw0 hw
  refine ⟨by omega, lc_draw _ (fun p : Int × Int => .tuple [.int p.1, .int p.2]) (fun _ => True) _ (by simp [sizeL]; omega) (fun x _ => ⟨_, rfl, fun Q q => ?_⟩) ?_⟩
  · simp [sizeL]
    exact ⟨by omega, fun i _ _ => ⟨by omega, fun j _ _ => q (i, j) trivial⟩⟩
  intro es hes _
  simp at hes
  refine ⟨by omega, for_inv (fun items E => ∃ (ks : List Nat) (rows : List (List Bool)) (a6 a7 a8 a9 a10 : En), items = ks.map (fun i => .int (i : Nat)) ∧ rows.length + ks.length = m ∧ (∀ r ∈ rows, r.length = n) ∧
    E = [.box, .dat (.int n), .dat (.int m), .dat (.int w), .dat (.list (es.map fun p : Int × Int => .tuple [.int p.1, .int p.2])), .own (rows.map encBs), a6, a7, a8, a9, a10]) ?_ ?_ _ _ ⟨List.range m, [], _, _, _, _, _, rfl, by simp, by simp, rfl⟩⟩
  · rintro E ⟨ks, rows, a6, a7, a8, a9, a10, e, hl, hr, rfl⟩
    cases ks with
    | cons => simp at e
    | nil =>
      simp
      exact hR rows (by simpa using hl) hr
  · rintro x r E ⟨ks, rows, a6, a7, a8, a9, a10, e, hl, hr, rfl⟩
    cases ks with
    | nil => simp at e
    | cons k ks =>
      simp at e
      obtain ⟨rfl, rfl⟩ := e
      simp at hl
      refine ⟨_, rfl, fun N hN => ?_⟩
      simp
      refine for_inv (fun items E => ∃ (ps : List (Int × Int)) (row : List Bool) (a8 a9 : En), items = ps.map (fun p : Int × Int => .tuple [.int p.1, .int p.2]) ∧ row.length + ps.length = n ∧
        E = [.box, .dat (.int n), .dat (.int m), .dat (.int w), .dat (.list (es.map fun p : Int × Int => .tuple [.int p.1, .int p.2])), .own (rows.map encBs), .dat (.int k), .own (row.map .bool), a8, a9, a10]) ?_ ?_ _ _ ⟨es, [], _, _, rfl, by simpa using hes, rfl⟩
      · rintro E ⟨ps, row, a8, a9, e, hl2, rfl⟩
        cases ps with
        | cons => simp at e
        | nil =>
          simp [sizeL]
          refine ⟨by omega, hN _ ⟨ks, rows ++ [row], _, _, _, _, _, rfl, by simp; omega, fun r hr' => ?_, by rw [List.map_append]; rfl⟩⟩
          rcases List.mem_append.mp hr' with h | h
          · exact hr r h
          · simp at h; subst h; simpa using hl2
      · rintro x r E ⟨ps, row, a8, a9, e, hl2, rfl⟩
        cases ps with
        | nil => simp at e
        | cons p ps =>
          simp at e
          obtain ⟨rfl, rfl⟩ := e
          simp at hl2
          refine ⟨_, rfl, fun N hN => ?_⟩
          have q : ∀ b : Bool, N [.box, .dat (.int n), .dat (.int m), .dat (.int w), .dat (.list (es.map fun p : Int × Int => .tuple [.int p.1, .int p.2])), .own (rows.map encBs), .dat (.int k), .own (row.map .bool ++ [.bool b]), .dat (.int p.1), .dat (.int p.2), a10] := fun b => hN _ ⟨ps, row ++ [b], _, _, rfl, by simp; omega, by rw [List.map_append]; rfl⟩
          have hz : row.length < sizeLine := by simp [sizeL]; omega
          simp [hz]
          refine ⟨fun _ i _ _ => q _, fun _ => ⟨fun _ => ?_, fun _ => ⟨fun _ => q _, fun _ => q _⟩⟩⟩
          refine ⟨fun _ => q _, fun _ => q _⟩

/-- a cell of so many pots, each shade from 0 to 9; where it is not loose, each wish is the stain or one more -/
structure CellOk (n : Nat) (c : Cell) : Prop where
  st : c.st.length = n
  ws : c.ws.length = n
  s9 : ∀ x ∈ c.st, 0 ≤ x ∧ x ≤ 9
  w9 : ∀ x ∈ c.ws, 0 ≤ x ∧ x ≤ 9
def Tight (c : Cell) : Prop := ∀ (i : Nat) (x y : Int), c.st[i]? = some x → c.ws[i]? = some y → y = x ∨ y = x + 1
def sp_law_cell : DSp := fun as R _ => ∃ (row : List Bool) (l w : Nat), as = [.box, .dat (encBs row), .dat (.int l), .dat (.int w)] ∧ row.length ≤ 64 ∧ l ≤ 64 ∧ w ≤ 64 ∧ ∀ c : Cell, CellOk row.length c → (l = 0 → Tight c) → (w = 0 → c.wx = false) → R (dC1 c)
theorem len_law_cell : ∀ as R Xn, sp_law_cell as R Xn → as.length = 4 := fun _ _ _ ⟨_, _, _, e, _⟩ => by rw [e]; rfl
def d_law_cell : DS := dSeq (dSetO 4 (dLst (dNil)))
  (dSeq (dSetO 5 (dLst (dNil)))
  (dSeq (dFor (iSeqD (dVar 1)) (.nm 6) (dSeq (dSet 7 (dCall sp_take (dBoxA 0 (dCons (dC (.int 9)) (dNil)))))
  (dSeq (dApp 4 (dVar 7))
  (dSeq (dApp 5 (dOp fAdd (dVar 7) (dCB fInt (dCons (dVar 6) (dNil)))))
  (dIfS (dAndT (dTB (dOp fGt (dVar 2) (dC (.int 0)))) (dTB (dOp fEq (dCall sp_take (dBoxA 0 (dCons (dVar 2) (dNil)))) (dC (.int 0))))) (dSeq (dPut 4 (dNeg (dC (.int 1))) (dCall sp_take (dBoxA 0 (dCons (dC (.int 10)) (dNil)))))
  (dPut 5 (dNeg (dC (.int 1))) (dCall sp_take (dBoxA 0 (dCons (dC (.int 10)) (dNil)))))) (dNext))))))
  (dRet (dBw 5 (dBw 4 (dTup (dCons (dCB fTuple (dCons (dVar 4) (dNil))) (dCons (dAndV (dOp fGt (dVar 3) (dC (.int 0))) (dOp fLt (dCall sp_take (dBoxA 0 (dCons (dC (.int 5)) (dNil)))) (dVar 3))) (dCons (dCB fTuple (dCons (dVar 5) (dNil))) (dNil))))))))))
theorem pure_law_cell : ∀ as R Xn, sp_law_cell as R Xn → d_law_cell { nx := fun _ => R .none, rt := R } (startE 8 as) := by
  rintro _ R _ ⟨row, l, w, rfl, hrow, hl, hw, hR⟩
  simp [d_law_cell, sp_take]
  refine for_inv (fun items E => ∃ (bs : List Bool) (st ws : List Int) (a6 a7 : En), items = bs.map .bool ∧ st.length + bs.length = row.length ∧ ws.length = st.length ∧ (∀ x ∈ st, 0 ≤ x ∧ x ≤ 9) ∧ (∀ x ∈ ws, 0 ≤ x ∧ x ≤ 9) ∧
    (l = 0 → ∀ (i : Nat) (x y : Int), st[i]? = some x → ws[i]? = some y → y = x ∨ y = x + 1) ∧
    E = [.box, .dat (encBs row), .dat (.int l), .dat (.int w), .own (st.map .int), .own (ws.map .int), a6, a7]) ?_ ?_ _ _ ⟨row, [], [], _, _, rfl, by simp, rfl, by simp, by simp, by simp, rfl⟩
  · rintro E ⟨bs, st, ws, a6, a7, e, h1, h2, h3, h4, h5, rfl⟩
    cases bs with
    | cons => simp at e
    | nil =>
      simp at h1
      have q : ∀ b : Bool, (w = 0 → b = false) → R (dC1 ⟨st, b, ws⟩) := fun b hb => hR ⟨st, b, ws⟩ ⟨h1, by simp [h2, h1], h3, h4⟩ h5 hb
      have n1 : noLs (st.map .int) = true := noLs_all fun d hd => by simp at hd; obtain ⟨x, _, rfl⟩ := hd; rfl
      have n2 : noLs (ws.map .int) = true := noLs_all fun d hd => by simp at hd; obtain ⟨x, _, rfl⟩ := hd; rfl
      simp [sizeL, n1, n2]
      refine ⟨fun hw0 i _ _ => q _ (by omega), fun hw0 => q false (by simp)⟩
  · rintro x r E ⟨bs, st, ws, a6, a7, e, h1, h2, h3, h4, h5, rfl⟩
    cases bs with
    | nil => simp at e
    | cons b bs =>
      simp at e
      obtain ⟨rfl, rfl⟩ := e
      simp at h1
      refine ⟨_, rfl, fun N hN => ?_⟩
      have q : ∀ s t : Int, 0 ≤ s → s ≤ 9 → 0 ≤ t → t ≤ 9 → (l = 0 → t = s ∨ t = s + 1) → ∀ a7 : En, N [.box, .dat (encBs row), .dat (.int l), .dat (.int w), .own (st.map .int ++ [.int s]), .own (ws.map .int ++ [.int t]), .dat (.bool b), a7] := fun s t hs0 hs ht0 ht hlo a7 =>
        hN _ ⟨bs, st ++ [s], ws ++ [t], _, _, rfl, by simp; omega, by simp [h2], fun x hx => by
          rcases List.mem_append.mp hx with h | h
          · exact h3 x h
          · simp at h; subst h; exact ⟨hs0, hs⟩, fun x hx => by
          rcases List.mem_append.mp hx with h | h
          · exact h4 x h
          · simp at h; subst h; exact ⟨ht0, ht⟩, fun hl0 i x y hx hy => by
          by_cases hi : i < st.length
          · rw [List.getElem?_append_left hi] at hx
            rw [List.getElem?_append_left (by omega)] at hy
            exact h5 hl0 i x y hx hy
          · rw [List.getElem?_append_right (by omega)] at hx
            rw [List.getElem?_append_right (by omega), h2] at hy
            by_cases hi2 : i - st.length = 0
            · rw [hi2] at hx hy
              simp at hx hy
              subst hx hy
              exact hlo hl0
            · obtain ⟨j, hj⟩ : ∃ j, i - st.length = j + 1 := ⟨i - st.length - 1, by omega⟩
              rw [hj] at hx
              simp at hx, by rw [List.map_append, List.map_append]; rfl⟩
      have z1 : st.length < sizeLine := by simp [sizeL]; omega
      have z2 : ws.length < sizeLine := by simp [sizeL]; omega
      have i1 : ixN (st.length + 1) (-1) = some st.length := ixN_last (by omega)
      have i2 : ixN (ws.length + 1) (-1) = some ws.length := ixN_last (by omega)
      simp [z1, z2, i1, i2]
      intro s hs0 hs
      refine ⟨fun hl0 => ⟨by omega, by omega, fun i _ _ => ⟨fun _ j hj0 hj k hk0 hk => ?_, fun _ => ?_⟩⟩, fun hl0 => ?_⟩
      · have := q j k hj0 (by omega) hk0 (by omega) (by omega) (.dat (.int s))
        simpa [List.set_append] using this
      · cases b <;> exact q _ _ (by omega) (by omega) (by simp; omega) (by simp; omega) (by omega) _
      · cases b <;> exact q _ _ (by omega) (by omega) (by simp; omega) (by simp; omega) (by simp) _

/-- a bolt of so many cells and pots -/
structure BoltOk (n m : Nat) (b : List Cell) : Prop where
  len : b.length = m
  ok : ∀ c ∈ b, CellOk n c
def sp_law_bolt : DSp := fun as R _ => ∃ n m l : Nat, as = [.box, .dat (.int n), .dat (.int m), .dat (.int l)] ∧ n ≤ 64 ∧ m ≤ 64 ∧ l ≤ 64 ∧ ∀ b : List Cell, BoltOk n m b → (l = 0 → ∀ c ∈ b, Tight c) → R (dB b)
theorem len_law_bolt : ∀ as R Xn, sp_law_bolt as R Xn → as.length = 4 := fun _ _ _ ⟨_, _, _, e, _⟩ => by rw [e]; rfl
def d_law_bolt : DS := dSeq (dSet 4 (dCall sp_take (dBoxA 0 (dCons (dC (.int 4)) (dNil)))))
  (dSeq (dSet 5 (dCall sp_law_lacks (dBoxA 0 (dCons (dVar 1) (dCons (dVar 2) (dNil))))))
  (dRet (dFz (dLc (iSeqD (dVar 5)) (.nm 6) (dYes) (dCall sp_law_cell (dBoxA 0 (dCons (dVar 6) (dCons (dVar 3) (dCons (dVar 4) (dNil)))))) [6]))))
theorem pure_law_bolt : ∀ as R Xn, sp_law_bolt as R Xn → d_law_bolt { nx := fun _ => R .none, rt := R } (startE 7 as) := by
  rintro _ R _ ⟨n, m, l, rfl, hn, hm, hl, hR⟩
  simp [d_law_bolt, sp_take]
  intro w hw0 hw
  obtain ⟨w, rfl⟩ := Int.eq_ofNat_of_zero_le hw0
  refine ⟨n, m, rfl, hn, hm, fun rows h1 h2 => ?_⟩
  simp
  refine lc_draw encBs dC1 (fun c => CellOk n c ∧ (l = 0 → Tight c)) rows (by simp [sizeL]; omega) (fun r hr => ⟨_, rfl, fun Q q => ?_⟩) fun b hb hc => hR b ⟨by omega, fun c h => (hc c h).1⟩ fun h0 c h => (hc c h).2 h0
  simp
  refine ⟨r, l, w, rfl, by rw [h2 r hr]; exact hn, hl, by omega, fun c c1 c2 _ => q c ⟨by rw [← h2 r hr]; exact c1, c2⟩⟩

def sp_law_sizes : DSp := fun as R _ => as = [.box] ∧ ∀ n m : Nat, n ≤ 12 → m ≤ 40 → R (.tuple [.int n, .int m])
theorem len_law_sizes : ∀ as R Xn, sp_law_sizes as R Xn → as.length = 1 := fun _ _ _ ⟨e, _⟩ => by rw [e]; rfl
def d_law_sizes : DS := dSeq (dIfS (dTB (dOp fEq (dCall sp_take (dBoxA 0 (dCons (dC (.int 8)) (dNil)))) (dC (.int 0)))) (dRet (dTup (dCons (dCall sp_take (dBoxA 0 (dCons (dC (.int 13)) (dNil)))) (dCons (dCall sp_take (dBoxA 0 (dCons (dC (.int 41)) (dNil)))) (dNil))))) (dNext))
  (dRet (dTup (dCons (dCall sp_take (dBoxA 0 (dCons (dC (.int 7)) (dNil)))) (dCons (dCall sp_take (dBoxA 0 (dCons (dC (.int 9)) (dNil)))) (dNil)))))
theorem pure_law_sizes : ∀ as R Xn, sp_law_sizes as R Xn → d_law_sizes { nx := fun _ => R .none, rt := R } (startE 1 as) := by
  rintro _ R _ ⟨rfl, hR⟩
  have hR2 : ∀ i j : Int, 0 ≤ i → i < 13 → 0 ≤ j → j < 41 → R (.tuple [.int i, .int j]) := fun i j h1 h2 h3 h4 => by
    obtain ⟨n, rfl⟩ := Int.eq_ofNat_of_zero_le h1
    obtain ⟨m, rfl⟩ := Int.eq_ofNat_of_zero_le h3
    exact hR n m (by omega) (by omega)
  simp [d_law_sizes, sp_take, sizeL]
  exact fun i _ _ => ⟨fun _ i h1 h2 j h3 h4 => hR2 i j h1 h2 h3 h4, fun _ i h1 h2 j h3 h4 => hR2 i j h1 (by omega) h3 (by omega)⟩

def sp_law_lack : DSp := fun as R _ => ∃ (b : List Cell) (n d : Nat), as = [.dat (dB b), .dat (.int d)] ∧ Sized n b ∧ d < n ∧ R (dN (lackL b d))
theorem len_law_lack : ∀ as R Xn, sp_law_lack as R Xn → as.length = 2 := fun _ _ _ ⟨_, _, _, e, _⟩ => by rw [e]; rfl
def d_law_lack : DS := dRet (dFz (dLc (iRngD (dCB fLen (dCons (dVar 0) (dNil)))) (.nm 2) (dTB (dOp fGt (dOp fIx (dOp fIx (dOp fIx (dVar 0) (dVar 2)) (dC (.int 2))) (dVar 1)) (dOp fIx (dOp fIx (dOp fIx (dVar 0) (dVar 2)) (dC (.int 0))) (dVar 1)))) (dVar 2) [2]))
theorem pure_law_lack : ∀ as R Xn, sp_law_lack as R Xn → d_law_lack { nx := fun _ => R .none, rt := R } (startE 3 as) := by
  rintro _ R _ ⟨b, n, d, rfl, ⟨h1, h2, h3⟩, hd, hR⟩
  have hz : b.length ≤ sizeLine := by simp [sizeL]; omega
  simp [d_law_lack, rng_map, hz]
  refine ⟨by omega, lc_filter _ (fun i => lacksC (cellAt b i) d) natI _ (by simp [sizeL]; omega) (fun i hi => ?_) hR⟩
  have hi : i < b.length := by simpa using hi
  obtain ⟨h4, h5⟩ := h3 _ (cellAt_mem hi)
  have z1 : (cellAt b i).st.length ≤ sizeLine := by simp [sizeL]; omega
  have z2 : (cellAt b i).ws.length ≤ sizeLine := by simp [sizeL]; omega
  have d1 : d < (cellAt b i).st.length := by omega
  have d2 : d < (cellAt b i).ws.length := by omega
  have z3 : 3 ≤ sizeLine := by simp [sizeL]
  refine ⟨_, rfl, fun Q q => ?_, fun _ Q q => ?_⟩
  · simp [hz, atI_cell hi, z1, z2, z3, atI_sd d1, atI_sd d2]
    exact q
  · simp
    exact q

def sp_law_need : DSp := fun as R _ => ∃ (b : List Cell) (n : Nat), as = [.dat (dB b), .dat (.int n)] ∧ Sized n b ∧ R (dN (needL b n))
theorem len_law_need : ∀ as R Xn, sp_law_need as R Xn → as.length = 2 := fun _ _ _ ⟨_, _, e, _⟩ => by rw [e]; rfl
def d_law_need : DS := dRet (dFz (dLc (iRngD (dVar 1)) (.nm 2) (dTB (dOp fGt (dCB fLen (dCons (dCall sp_law_lack (dCons (dVar 0) (dCons (dVar 2) (dNil)))) (dNil))) (dC (.int 0)))) (dVar 2) [2]))
theorem pure_law_need : ∀ as R Xn, sp_law_need as R Xn → d_law_need { nx := fun _ => R .none, rt := R } (startE 3 as) := by
  rintro _ R _ ⟨b, n, rfl, h, hR⟩
  have hn := h.2.1
  simp [d_law_need, rng_map]
  refine ⟨by omega, lc_filter _ (isNeeded b) natI _ (by simp [sizeL]; omega) (fun i hi => ?_) hR⟩
  have hi : i < n := by simpa using hi
  refine ⟨_, rfl, fun Q q => ?_, fun _ Q q => ?_⟩
  · simp
    refine ⟨b, n, i, rfl, h, hi, ?_⟩
    have hl : (lackL b i).length ≤ sizeLine := Nat.le_trans filter_le (by have := h.1; simp [sizeL]; omega)
    have e2 : decide (0 < (lackL b i).length) = isNeeded b i := by
      rw [Bool.eq_iff_iff]
      have := needed_iff (b := b) (d := i)
      simp [List.length_pos_iff, this]
    simp [hl]
    rw [e2]
    exact q
  · simp
    exact q

def sp_law_under : DSp := fun as R _ => ∃ (b : List Cell) (n o p : Nat), as = [.dat (dB b), .dat (.int o), .dat (.int p)] ∧ Sized n b ∧ Memb n o ∧ Memb n p ∧ R (.bool (beneathB b o p))
theorem len_law_under : ∀ as R Xn, sp_law_under as R Xn → as.length = 3 := fun _ _ _ ⟨_, _, _, _, e, _⟩ => by rw [e]; rfl
def d_law_under : DS := dSeq (dIfS (dOrT (dTB (dOp fEq (dVar 1) (dVar 2))) (dTB (dOp fEq (dVar 1) (dC (.int 12))))) (dRet (dC (.bool false))) (dNext))
  (dSeq (dSet 3 (dCall sp_law_lack (dCons (dVar 0) (dCons (dVar 1) (dNil)))))
  (dSeq (dIfS (dTB (dOp fEq (dVar 2) (dC (.int 12)))) (dRet (dNotV (dCB fAny (dCons (dFz (dLc (iSeqD (dVar 3)) (.nm 5) (dYes) (dOp fIx (dOp fIx (dVar 0) (dVar 5)) (dC (.int 1))) [5])) (dNil))))) (dNext))
  (dSeq (dSet 4 (dCall sp_law_lack (dCons (dVar 0) (dCons (dVar 2) (dNil)))))
  (dSeq (dIfS (dTB (dOp fEq (dVar 3) (dVar 4))) (dRet (dOp fGt (dVar 1) (dVar 2))) (dNext))
  (dRet (dCB fAll (dCons (dFz (dLc (iSeqD (dVar 3)) (.nm 5) (dYes) (dOp (fIn false) (dVar 5) (dVar 4)) [5])) (dNil))))))))
theorem pure_law_under : ∀ as R Xn, sp_law_under as R Xn → d_law_under { nx := fun _ => R .none, rt := R } (startE 6 as) := by
  rintro _ R _ ⟨b, n, o, p, rfl, h, ho, hp, hR⟩
  have hl : ∀ d, (lackL b d).length ≤ sizeLine := fun d => Nat.le_trans filter_le (by have := h.1; simp [sizeL]; omega)
  have hz : b.length ≤ sizeLine := by have := h.1; simp [sizeL]; omega
  simp [d_law_under, int12, intEq]
  unfold beneathB at hR
  by_cases e1 : o = p
  · simp [e1] at hR ⊢
    exact hR
  · by_cases e2 : o = 12
    · simp [e2] at hR
      simp [e1, e2]
      exact ⟨fun _ => hR, fun _ => hR⟩
    · rw [if_neg (by simp [e1, e2])] at hR
      have ho' : o < n := ho.resolve_right e2
      simp [e1, e2]
      refine ⟨b, n, o, rfl, h, ho', ?_⟩
      by_cases e3 : p = 12
      · rw [if_pos e3] at hR
        simp [e3]
        refine lc_map natI (fun i => .bool (cellAt b i).wx) _ (hl o) (fun i hi => ⟨_, rfl, fun Q q => ?_⟩) ?_
        · have hi := (mem_lackL.mp hi).1
          simp [hz, atI_cell hi]
          exact ⟨by simp [sizeL], q⟩
        · refine fAny_m (f := fun i => (cellAt b i).wx) ?_
          simp
          rw [← free_eq] at hR
          simpa using hR
      · rw [if_neg e3, ← under_eq] at hR
        simp [e3]
        refine ⟨b, n, p, rfl, h, hp.resolve_right e3, ?_⟩
        simp
        by_cases e4 : lackL b o = lackL b p
        · rw [if_pos e4] at hR
          simpa [e4, intLt] using hR
        · rw [if_neg e4] at hR
          simp [e4]
          refine lc_map natI (fun i => .bool (decide (i ∈ lackL b p))) _ (hl o) (fun i hi => ⟨_, rfl, fun Q q => ?_⟩) ?_
          · simpa using q
          · exact fAll_m (f := fun i => decide (i ∈ lackL b p)) hR

def sp_law_clash : DSp := fun as R _ => ∃ (b : List Cell) (n o p : Nat), as = [.dat (dB b), .dat (.int o), .dat (.int p)] ∧ Sized n b ∧ Memb n o ∧ Memb n p ∧ R (.bool (clashB b o p))
theorem len_law_clash : ∀ as R Xn, sp_law_clash as R Xn → as.length = 3 := fun _ _ _ ⟨_, _, _, _, e, _⟩ => by rw [e]; rfl
def d_law_clash : DS := dRet (dAndV (dOp fNe (dVar 1) (dVar 2)) (dAndV (dNotV (dCall sp_law_under (dCons (dVar 0) (dCons (dVar 1) (dCons (dVar 2) (dNil)))))) (dNotV (dCall sp_law_under (dCons (dVar 0) (dCons (dVar 2) (dCons (dVar 1) (dNil))))))))
theorem pure_law_clash : ∀ as R Xn, sp_law_clash as R Xn → d_law_clash { nx := fun _ => R .none, rt := R } (startE 3 as) := by
  rintro _ R Xn ⟨b, n, o, p, rfl, hs, ho, hp, hR⟩
  have e : ((o : Int) = (p : Int)) = (o = p) := propext ⟨fun h => by omega, fun h => by omega⟩
  simp [d_law_clash, e]
  unfold clashB at hR
  by_cases h : o = p
  · simpa [h] using hR
  · simp [h] at hR ⊢
    refine ⟨b, n, o, p, rfl, hs, ho, hp, ?_⟩
    cases h1 : beneathB b o p with
    | true => simpa [h1] using hR
    | false =>
      simp [h1] at hR ⊢
      exact ⟨b, n, p, o, rfl, hs, hp, ho, by simpa using hR⟩

abbrev dPr (p : Nat × Nat) : PyData := .tuple [.int p.1, .int p.2]
def sp_law_pairs : DSp := fun as R _ => ∃ xs : List Nat, as = [.box, .dat (dN xs)] ∧ xs.length ≤ 65536 ∧ ∀ ps : List (Nat × Nat), ps.length ≤ 64 → (∀ p ∈ ps, p.1 ∈ xs ∧ p.2 ∈ xs) → R (.list (ps.map dPr))
theorem len_law_pairs : ∀ as R Xn, sp_law_pairs as R Xn → as.length = 2 := fun _ _ _ ⟨_, e, _⟩ => by rw [e]; rfl
def d_law_pairs : DS := dSeq (dSetO 2 (dLst (dNil)))
  (dSeq (dIfS (dTB (dOp fLe (dCB fLen (dCons (dVar 1) (dNil))) (dC (.int 4)))) (dSeq (dFor (iSeqD (dVar 1)) (.nm 3) (dFor (iSeqD (dVar 1)) (.nm 4) (dApp 2 (dTup (dCons (dVar 3) (dCons (dVar 4) (dNil)))))))
  (dRetL 2)) (dNext))
  (dSeq (dFor (iRngD (dC (.int 12))) (.nm 5) (dApp 2 (dTup (dCons (dOp fIx (dVar 1) (dCall sp_take (dBoxA 0 (dCons (dCB fLen (dCons (dVar 1) (dNil))) (dNil))))) (dCons (dOp fIx (dVar 1) (dCall sp_take (dBoxA 0 (dCons (dCB fLen (dCons (dVar 1) (dNil))) (dNil))))) (dNil))))))
  (dRetL 2)))
theorem pure_law_pairs : ∀ as R Xn, sp_law_pairs as R Xn → d_law_pairs { nx := fun _ => R .none, rt := R } (startE 6 as) := by
  rintro _ R _ ⟨xs, rfl, hx, hR⟩
  have hz : xs.length ≤ sizeLine := by simp [sizeL]; omega
  simp [d_law_pairs, hz]
  constructor
  · intro h4
    have h4 : xs.length ≤ 4 := by omega
    refine for_inv (fun items E => ∃ (r : List Nat) (ps : List (Nat × Nat)) (a3 a4 a5 : En), items = r.map natI ∧ (∀ x ∈ r, x ∈ xs) ∧ ps.length + 4 * r.length ≤ 16 ∧ (∀ p ∈ ps, p.1 ∈ xs ∧ p.2 ∈ xs) ∧ E = [.box, .dat (dN xs), .own (ps.map dPr), a3, a4, a5]) ?_ ?_ _ _ ⟨xs, [], _, _, _, rfl, fun _ h => h, by simp; omega, by simp, rfl⟩
    · rintro E ⟨r, ps, a3, a4, a5, e, _, hl, hp, rfl⟩
      simp
      exact hR ps (by omega) hp
    · rintro x r E ⟨r', ps, a3, a4, a5, e, hm, hl, hp, rfl⟩
      cases r' with
      | nil => simp at e
      | cons x r' =>
        simp at e
        obtain ⟨rfl, rfl⟩ := e
        simp at hl
        refine ⟨_, rfl, fun N hN => ?_⟩
        simp
        refine for_inv (fun items E => ∃ (s : List Nat) (qs : List (Nat × Nat)) (a4 : En), items = s.map natI ∧ (∀ x ∈ s, x ∈ xs) ∧ qs.length + s.length ≤ ps.length + xs.length ∧ (∀ p ∈ qs, p.1 ∈ xs ∧ p.2 ∈ xs) ∧ E = [.box, .dat (dN xs), .own (qs.map dPr), .dat (.int x), a4, a5]) ?_ ?_ _ _ ⟨xs, ps, _, rfl, fun _ h => h, by omega, hp, rfl⟩
        · rintro E ⟨s, qs, a4, e, _, hl2, hq, rfl⟩
          exact hN _ ⟨r', qs, _, _, _, rfl, fun x hx => hm x (by simp [hx]), by omega, hq, rfl⟩
        · rintro y s E ⟨s', qs, a4, e, hs, hl2, hq, rfl⟩
          cases s' with
          | nil => simp at e
          | cons y s' =>
            simp at e
            obtain ⟨rfl, rfl⟩ := e
            simp at hl2
            refine ⟨_, rfl, fun N hN => ?_⟩
            simp [sizeL]
            refine ⟨by omega, hN _ ⟨s', qs ++ [(x, y)], _, rfl, fun z hz => hs z (by simp [hz]), by simp; omega, fun p hp => ?_, by rw [List.map_append]; rfl⟩⟩
            rcases List.mem_append.mp hp with h | h
            · exact hq p h
            · simp at h; subst h; exact ⟨hm x (by simp), hs y (by simp)⟩
  · intro h4
    have h4 : 4 < xs.length := by omega
    simp [rng_map]
    refine for_inv (fun items E => ∃ (r : List Nat) (ps : List (Nat × Nat)) (a5 : En), items = r.map natI ∧ ps.length + r.length ≤ 12 ∧ (∀ p ∈ ps, p.1 ∈ xs ∧ p.2 ∈ xs) ∧ E = [.box, .dat (dN xs), .own (ps.map dPr), .un, .un, a5]) ?_ ?_ _ _ ⟨List.range 12, [], _, rfl, by simp, by simp, rfl⟩
    · rintro E ⟨r, ps, a5, e, hl, hp, rfl⟩
      simp
      exact hR ps (by omega) hp
    · rintro x r E ⟨r', ps, a5, e, hl, hp, rfl⟩
      cases r' with
      | nil => simp at e
      | cons x r' =>
        simp at e
        obtain ⟨rfl, rfl⟩ := e
        simp at hl
        refine ⟨_, rfl, fun N hN => ?_⟩
        simp [hz]
        refine ⟨by omega, by omega, fun i hi0 hi => ?_⟩
        obtain ⟨i, rfl⟩ := Int.eq_ofNat_of_zero_le hi0
        have hi : i < xs.length := by omega
        simp [atI_nat hi]
        refine ⟨by omega, by omega, fun j hj0 hj => ?_⟩
        obtain ⟨j, rfl⟩ := Int.eq_ofNat_of_zero_le hj0
        have hj : j < xs.length := by omega
        simp [atI_nat hj, sizeL]
        refine ⟨by omega, hN _ ⟨r', ps ++ [(xs[i], xs[j])], _, rfl, by simp; omega, fun p hp' => ?_, by rw [List.map_append]; rfl⟩⟩
        rcases List.mem_append.mp hp' with h | h
        · exact hp p h
        · simp at h; subst h; exact ⟨List.getElem_mem _, List.getElem_mem _⟩

theorem find_least {n : Nat} {p : Nat → Bool} {m : Nat} (hm : m ∈ (List.range n).filter p) (hl : ∀ a ∈ (List.range n).filter p, m ≤ a) : (List.range n).find? p = some m := by
  obtain ⟨h1, h2⟩ := List.mem_filter.mp hm
  rw [List.find?_range_eq_some]
  refine ⟨h2, h1, fun j hj => ?_⟩
  cases e : p j with
  | false => rfl
  | true =>
    have hn : m < n := by simpa using h1
    have := hl j (List.mem_filter.mpr ⟨by simp; omega, e⟩)
    omega
theorem fLeast_N {xs : List Nat} {R : PyData → Prop} (h : xs ≠ []) (hR : ∀ m ∈ xs, (∀ a ∈ xs, m ≤ a) → R (.int m)) : fLeast [.list (xs.map fun n : Nat => .int n)] R := by
  refine ⟨xs.map Int.ofNat, by simp, by simpa using List.length_pos_iff.mpr h, fun m hm hl => ?_⟩
  obtain ⟨k, hk, rfl⟩ := List.mem_map.mp hm
  exact hR k hk fun a ha => by
    have := hl (Int.ofNat a) (List.mem_map_of_mem ha)
    exact Int.ofNat_le.mp this
theorem fIn_two {a b : Nat} {R : PyData → Prop} : fIn false (.int 12) (.tuple [.int a, .int b]) R = R (.bool (decide (a = 12 ∨ b = 12))) := by
  have h := fIn_IT (neg := false) (i := 12) (xs := [(a : Int), (b : Int)]) (R := R)
  have e : (false != decide ((12 : Int) ∈ [(a : Int), (b : Int)])) = decide (a = 12 ∨ b = 12) := by
    rw [Bool.eq_iff_iff]
    simp
    omega
  rw [e] at h
  exact h
theorem clash_wax {b : List Cell} {o : Nat} (h : beneathB b o 12 = false) (ho : o ≠ 12) : (lackL b o).filter (fun i => (cellAt b i).wx) ≠ [] := by
  have hf : freeB b o = false := by
    unfold beneathB at h
    rw [if_neg (by simp [ho]), if_pos rfl] at h
    exact h
  rw [← free_eq] at hf
  have : (lackL b o).any (fun i => (cellAt b i).wx) = true := by simpa using hf
  obtain ⟨i, hi, hw⟩ := List.any_eq_true.mp this
  intro e
  have : i ∈ (lackL b o).filter (fun i => (cellAt b i).wx) := List.mem_filter.mpr ⟨hi, hw⟩
  rw [e] at this
  cases this
theorem clash_only {b : List Cell} {o p : Nat} (h1 : beneathB b o p = false) (h2 : beneathB b p o = false) (hop : o ≠ p) (ho : o ≠ 12) (hp : p ≠ 12) : (lackL b o).filter (fun i => !decide (i ∈ lackL b p)) ≠ [] := by
  intro e
  have hs : subB b o p = true := by
    rw [sub_lackL]
    intro i hi
    by_cases h : i ∈ lackL b p
    · exact h
    · have : i ∈ (lackL b o).filter (fun i => !decide (i ∈ lackL b p)) := List.mem_filter.mpr ⟨hi, by simp [h]⟩
      rw [e] at this
      cases this
  have a1 : ¬ beneathB b o p = true := by rw [h1]; exact Bool.false_ne_true
  have a2 : ¬ beneathB b p o = true := by rw [h2]; exact Bool.false_ne_true
  rw [beneath_iff] at a1 a2
  by_cases hs2 : subB b p o = true
  · by_cases hlt : p < o
    · exact a1 ⟨hop, ho, .inr ⟨hp, hs, fun _ => hlt⟩⟩
    · exact a2 ⟨hop.symm, hp, .inr ⟨ho, hs2, fun _ => by omega⟩⟩
  · exact a1 ⟨hop, ho, .inr ⟨hp, hs, fun h => absurd h hs2⟩⟩
theorem wax_find {b : List Cell} {o m : Nat} (hm : m ∈ (lackL b o).filter fun i => (cellAt b i).wx) (hl : ∀ a ∈ (lackL b o).filter (fun i => (cellAt b i).wx), m ≤ a) : leastW b o = some m := by
  have e : (lackL b o).filter (fun i => (cellAt b i).wx) = (List.range b.length).filter (waxL b o) := by
    unfold lackL
    rw [List.filter_filter]
    rfl
  rw [e] at hm hl
  exact find_least hm hl
theorem only_find {b : List Cell} {o p m : Nat} (hm : m ∈ (lackL b o).filter fun i => !decide (i ∈ lackL b p)) (hl : ∀ a ∈ (lackL b o).filter (fun i => !decide (i ∈ lackL b p)), m ≤ a) : leastO b o p = some m := by
  have e : (lackL b o).filter (fun i => !decide (i ∈ lackL b p)) = (List.range b.length).filter (onlyB b o p) := by
    unfold lackL
    rw [List.filter_filter]
    apply List.filter_congr
    intro i hi
    have hi : i < b.length := by simpa using hi
    unfold onlyB
    rw [Bool.eq_iff_iff]
    simp [hi, and_comm]
  rw [e] at hm hl
  exact find_least hm hl
def sp_law_reason : DSp := fun as R _ => ∃ (b : List Cell) (n o p : Nat), as = [.dat (dB b), .dat (.int o), .dat (.int p)] ∧ Sized n b ∧ n ≤ 12 ∧ Memb n o ∧ Memb n p ∧ R (reasonD b o p)
theorem len_law_reason : ∀ as R Xn, sp_law_reason as R Xn → as.length = 3 := fun _ _ _ ⟨_, _, _, _, e, _⟩ => by rw [e]; rfl
def d_law_reason : DS := dSeq (dIfS (dNotT (dTru (dCall sp_law_clash (dCons (dVar 0) (dCons (dVar 1) (dCons (dVar 2) (dNil))))))) (dRet (dC .none)) (dNext))
  (dSeq (dIfS (dTB (dOp (fIn false) (dC (.int 12)) (dTup (dCons (dVar 1) (dCons (dVar 2) (dNil)))))) (dRet (dTup (dCons (dCB fLeast (dCons (dFz (dLc (iSeqD (dCall sp_law_lack (dCons (dVar 0) (dCons (dCB fMin2 (dCons (dVar 1) (dCons (dVar 2) (dNil)))) (dNil))))) (.nm 5) (dTru (dOp fIx (dOp fIx (dVar 0) (dVar 5)) (dC (.int 1)))) (dVar 5) [5])) (dNil))) (dNil)))) (dNext))
  (dSeq (dSet 3 (dCall sp_law_lack (dCons (dVar 0) (dCons (dVar 1) (dNil)))))
  (dSeq (dSet 4 (dCall sp_law_lack (dCons (dVar 0) (dCons (dVar 2) (dNil)))))
  (dRet (dTup (dCons (dCB fLeast (dCons (dFz (dLc (iSeqD (dVar 3)) (.nm 5) (dTB (dOp (fIn true) (dVar 5) (dVar 4))) (dVar 5) [5])) (dNil))) (dCons (dCB fLeast (dCons (dFz (dLc (iSeqD (dVar 4)) (.nm 5) (dTB (dOp (fIn true) (dVar 5) (dVar 3))) (dVar 5) [5])) (dNil))) (dNil))))))))
theorem pure_law_reason : ∀ as R Xn, sp_law_reason as R Xn → d_law_reason { nx := fun _ => R .none, rt := R } (startE 6 as) := by
  rintro _ R Xn ⟨b, n, o, p, rfl, hs, hn, ho, hp, hR⟩
  have hl : ∀ d, (lackL b d).length ≤ sizeLine := fun d => Nat.le_trans filter_le (by have := hs.1; simp [sizeL]; omega)
  have hz : b.length ≤ sizeLine := by have := hs.1; simp [sizeL]; omega
  simp [d_law_reason]
  refine ⟨b, n, o, p, rfl, hs, ho, hp, ?_⟩
  unfold reasonD at hR
  cases hc : clashB b o p with
  | false =>
    rw [if_pos hc] at hR
    simp
    exact hR
  | true =>
    rw [if_neg (by rw [hc]; exact Bool.noConfusion)] at hR
    have hcc := hc
    unfold clashB at hcc
    simp at hcc
    obtain ⟨hop, c1, c2⟩ := hcc
    have wax : ∀ d, d < n → beneathB b d 12 = false → R (.tuple [optD (leastW b d)]) → lcGo (.nm 5) (dTru (dOp fIx (dOp fIx (dVar 0) (dVar 5)) (dC (.int 1)))) (dVar 5) [.dat (dB b), .dat (.int o), .dat (.int p), .un, .un, .un] (fun ds => fLeast [.list ds] fun d => R (.tuple [d])) ((lackL b d).map natI) [] := fun d hd hb hR => by
      refine lc_filter natI (fun i => (cellAt b i).wx) natI _ (hl d) (fun i hi => ⟨_, rfl, fun Q q => ?_, fun _ Q q => ?_⟩) ?_
      · have hi := (mem_lackL.mp hi).1
        simp [hz, atI_cell hi]
        exact ⟨by simp [sizeL], by simpa using q⟩
      · exact ⟨_, rfl, q⟩
      · refine fLeast_N (clash_wax hb (by omega)) fun m hm hlm => ?_
        rw [wax_find hm hlm] at hR
        exact hR
    have only : ∀ (x y : Nat) (F : PyData → Prop) (l : Nat) (E : List En), beneathB b x y = false → beneathB b y x = false → x ≠ y → x ≠ 12 → y ≠ 12 →
        (∀ i : Nat, ∀ Q : Bool → Prop, Q (!decide (i ∈ lackL b y)) → dTB (dOp (fIn true) (dVar 5) (dVar l)) (E.set 5 (.dat (natI i))) Q (fun _ => False)) → (∀ i : Nat, (E.set 5 (.dat (natI i)))[5]? = some (.dat (natI i))) →
        F (optD (leastO b x y)) → lcGo (.nm 5) (dTB (dOp (fIn true) (dVar 5) (dVar l))) (dVar 5) E (fun ds => fLeast [.list ds] F) ((lackL b x).map natI) [] := fun x y F l E h1 h2 hxy hx hy ht h5 hF => by
      refine lc_filter natI (fun i => !decide (i ∈ lackL b y)) natI _ (hl x) (fun i hi => ⟨_, rfl, fun Q q => ht i Q q, fun _ Q q => ⟨_, h5 i, q⟩⟩) ?_
      refine fLeast_N (clash_only h1 h2 hxy hx hy) fun m hm hlm => ?_
      rw [only_find hm hlm] at hF
      exact hF
    simp [fIn_two, sizeL]
    refine ⟨fun h12 => ?_, fun h1 h2 => ?_⟩
    · by_cases h1 : o = 12
      · have hp' : p < n := hp.resolve_right fun e => hop (by rw [h1, e])
        rw [if_pos h1] at hR
        have hlt : p < o := by omega
        rw [if_pos hlt]
        refine ⟨b, n, p, rfl, hs, hp', ?_⟩
        simp
        exact wax p hp' (by rw [← h1]; exact c2) hR
      · have h2 : p = 12 := h12.resolve_left h1
        have ho' : o < n := ho.resolve_right h1
        rw [if_neg h1, if_pos h2] at hR
        have hlt : ¬ p < o := by omega
        rw [if_neg hlt]
        refine ⟨b, n, o, rfl, hs, ho', ?_⟩
        simp
        exact wax o ho' (by rw [← h2]; exact c1) hR
    · have ho' : o < n := ho.resolve_right h1
      have hp' : p < n := hp.resolve_right h2
      rw [if_neg h1, if_neg h2] at hR
      refine ⟨b, n, o, rfl, hs, ho', b, n, p, rfl, hs, hp', ?_⟩
      simp
      refine only o p _ 4 _ c1 c2 hop h1 h2 (fun i Q q => by simp; simpa using q) (fun i => rfl) ?_
      refine only p o _ 3 _ c2 c1 (Ne.symm hop) h2 h1 (fun i Q q => by simp; simpa using q) (fun i => rfl) ?_
      exact hR

section
variable {P : Program} {w : World} {K : PySem.W.Frag} {mg : Str → Option Value} {base : Heap} {f : Addr} {fd : FuncData}
theorem sc1 : FnScope ["cell", "dye"] ["cell", "dye"] (defScope (topS 1)) := ⟨rfl, rfl, rfl, by decide +kernel, rfl, by decide +kernel, by decide +kernel⟩
theorem ok_gap (F : FunD K "gap" "gap" (defArgs (topS 1)) (defBody (topS 1)) (defScope (topS 1)) [] [] f fd) (fr : Fr mg)  : FnOk P w K mg base CX0 1 f fd ["cell", "dye"] (spF K sp_gap) :=
  mkF F sc1 len_gap (ds := d_gap) (fun cdv A outer s H E hr => have hu := Room.hu hr; (ss_one (s_ret (q_sub (q_ix (q_ix (q_var 0 (pv 0)) q_int) (q_var 1 (pv 1))) (q_ix (q_ix (q_var 0 (pv 0)) q_int) (q_var 1 (pv 1))))))) pure_gap
theorem sc2 : FnScope ["cell", "dye"] ["cell", "dye"] (defScope (topS 2)) := ⟨rfl, rfl, rfl, by decide +kernel, rfl, by decide +kernel, by decide +kernel⟩
theorem ok_lacks (F : FunD K "lacks" "lacks" (defArgs (topS 2)) (defBody (topS 2)) (defScope (topS 2)) [] [] f fd) (fr : Fr mg) (D_gap : DefAt P w K mg base CX0 1 "gap" ["cell", "dye"] (spF K sp_gap)) : FnOk P w K mg base CX0 2 f fd ["cell", "dye"] (spF K sp_lacks) :=
  mkF F sc2 len_lacks (ds := d_lacks) (fun cdv A outer s H E hr => have hu := Room.hu hr; (ss_one (s_ret (q_c1 c_gt (q_call D_gap hr quiet0 (a_cons (q_var 0 (pv 0)) (a_cons (q_var 1 (pv 1)) a_nil))) q_int)))) pure_lacks
theorem sc5 : FnScope ["bolt", "dye", "cell"] ["bolt", "dye"] (defScope (topS 5)) := ⟨rfl, rfl, rfl, by decide +kernel, rfl, by decide +kernel, by decide +kernel⟩
theorem ok_free_now (F : FunD K "free_now" "free_now" (defArgs (topS 5)) (defBody (topS 5)) (defScope (topS 5)) [] [] f fd) (fr : Fr mg) (D_lacks : DefAt P w K mg base CX0 2 "lacks" ["cell", "dye"] (spF K sp_lacks)) : FnOk P w K mg base CX0 3 f fd ["bolt", "dye"] (spF K sp_free_now) :=
  mkF F sc5 len_free_now (ds := d_free_now) (fun cdv A outer s H E hr => have hu := Room.hu hr; (ss_one (s_ret (q_not (b_any fr rfl (a_cons (q_fz (f_lc (own := [("cell", 2)]) (tg := (.nm 2)) rfl sc5.nd (i_seq (q_var 0 (pv 0))) (by kernel_rfl) (by simp [Tgt.is]) (fun _ _ _ _ _ => (g_nm 2 (pg_name (i := 2) sc5.nd rfl (Or.inl rfl)))) (fun _ _ _ _ _ => ts_nil) (fun _ _ _ _ _ => (q_and (q_ix (q_var 2 (pv 2)) q_int) (q_one (q_call D_lacks hr quiet0 (a_cons (q_var 2 (pv 2)) (a_cons (q_var 1 (pv 1)) a_nil)))))))) a_nil)))))) pure_free_now
theorem sc6 : FnScope ["bolt", "one", "other", "alike", "cell"] ["bolt", "one", "other"] (defScope (topS 6)) := ⟨rfl, rfl, rfl, by decide +kernel, rfl, by decide +kernel, by decide +kernel⟩
theorem ok_within (F : FunD K "within" "within" (defArgs (topS 6)) (defBody (topS 6)) (defScope (topS 6)) [] [] f fd) (fr : Fr mg) (D_lacks : DefAt P w K mg base CX0 2 "lacks" ["cell", "dye"] (spF K sp_lacks)) : FnOk P w K mg base CX0 3 f fd ["bolt", "one", "other"] (spF K sp_within) :=
  mkF F sc6 len_within (ds := d_within) (fun cdv A outer s H E hr => have hu := Room.hu hr; (ss_cons (s_set (i := 3) sc6.nd rfl (Or.inl rfl) q_bl)
  (ss_cons (s_for PassesOwn.never rfl (i_seq (q_var 0 (pv 0))) (g_nm 4 (pg_name (i := 4) sc6.nd rfl (Or.inl rfl))) (ss_cons (s_if (t_w (tw_and (t_tru (q_call D_lacks hr quiet0 (a_cons (q_var 4 (pv 4)) (a_cons (q_var 1 (pv 1)) a_nil)))) (tw_and1 (t_not (t_tru (q_call D_lacks hr quiet0 (a_cons (q_var 4 (pv 4)) (a_cons (q_var 2 (pv 2)) a_nil)))))))) (ss_one (s_ret q_bl)) ss_nil)
  (ss_one (s_if (t_w (tw_and (t_tru (q_call D_lacks hr quiet0 (a_cons (q_var 4 (pv 4)) (a_cons (q_var 2 (pv 2)) a_nil)))) (tw_and1 (t_not (t_tru (q_call D_lacks hr quiet0 (a_cons (q_var 4 (pv 4)) (a_cons (q_var 1 (pv 1)) a_nil)))))))) (ss_one (s_set (i := 3) sc6.nd rfl (Or.inl rfl) q_bl)) ss_nil))))
  (ss_one (s_ret (q_or (q_not (q_var 3 (pv 3))) (q_one (q_c1 c_gt (q_var 1 (pv 1)) (q_var 2 (pv 2)))))))))) pure_within
theorem sc7 : FnScope ["bolt", "one", "other"] ["bolt", "one", "other"] (defScope (topS 7)) := ⟨rfl, rfl, rfl, by decide +kernel, rfl, by decide +kernel, by decide +kernel⟩
theorem ok_beneath (F : FunD K "beneath" "beneath" (defArgs (topS 7)) (defBody (topS 7)) (defScope (topS 7)) [] [] f fd) (fr : Fr mg) (D_free_now : DefAt P w K mg base CX0 3 "free_now" ["bolt", "dye"] (spF K sp_free_now)) (D_within : DefAt P w K mg base CX0 3 "within" ["bolt", "one", "other"] (spF K sp_within)) (g_NOW : ∃ t, mg "NOW" = some (.int 12 t)) : FnOk P w K mg base CX0 4 f fd ["bolt", "one", "other"] (spF K sp_beneath) :=
  mkF F sc7 len_beneath (ds := d_beneath) (fun cdv A outer s H E hr => have hu := Room.hu hr; (ss_cons (s_if (t_w (tw_or (t_c1 (c_eq hu) (q_var 1 (pv 1)) (q_var 2 (pv 2))) (tw_or1 (t_c1 (c_eq hu) (q_var 1 (pv 1)) (q_gi g_NOW))))) (ss_one (s_ret q_bl)) ss_nil)
  (ss_cons (s_if (t_c1 (c_eq hu) (q_var 2 (pv 2)) (q_gi g_NOW)) (ss_one (s_ret (q_call D_free_now hr quiet0 (a_cons (q_var 0 (pv 0)) (a_cons (q_var 1 (pv 1)) a_nil))))) ss_nil)
  (ss_one (s_ret (q_call D_within hr quiet0 (a_cons (q_var 0 (pv 0)) (a_cons (q_var 1 (pv 1)) (a_cons (q_var 2 (pv 2)) a_nil))))))))) pure_beneath
theorem sc8 : FnScope ["bolt", "one", "other"] ["bolt", "one", "other"] (defScope (topS 8)) := ⟨rfl, rfl, rfl, by decide +kernel, rfl, by decide +kernel, by decide +kernel⟩
theorem ok_clash (F : FunD K "clash" "clash" (defArgs (topS 8)) (defBody (topS 8)) (defScope (topS 8)) [] [] f fd) (fr : Fr mg) (D_beneath : DefAt P w K mg base CX0 4 "beneath" ["bolt", "one", "other"] (spF K sp_beneath)) : FnOk P w K mg base CX0 5 f fd ["bolt", "one", "other"] (spF K sp_clash) :=
  mkF F sc8 len_clash (ds := d_clash) (fun cdv A outer s H E hr => have hu := Room.hu hr; (ss_one (s_ret (q_and (q_c1 (c_ne hu) (q_var 1 (pv 1)) (q_var 2 (pv 2))) (q_and (q_not (q_call D_beneath hr quiet0 (a_cons (q_var 0 (pv 0)) (a_cons (q_var 1 (pv 1)) (a_cons (q_var 2 (pv 2)) a_nil))))) (q_one (q_not (q_call D_beneath hr quiet0 (a_cons (q_var 0 (pv 0)) (a_cons (q_var 2 (pv 2)) (a_cons (q_var 1 (pv 1)) a_nil))))))))))) pure_clash
theorem sc9 : FnScope ["bolt", "one", "other", "at", "cell"] ["bolt", "one", "other"] (defScope (topS 9)) := ⟨rfl, rfl, rfl, by decide +kernel, rfl, by decide +kernel, by decide +kernel⟩
theorem ok_least_only (F : FunD K "least_only" "least_only" (defArgs (topS 9)) (defBody (topS 9)) (defScope (topS 9)) [] [] f fd) (fr : Fr mg) (D_lacks : DefAt P w K mg base CX0 2 "lacks" ["cell", "dye"] (spF K sp_lacks)) : FnOk P w K mg base CX0 3 f fd ["bolt", "one", "other"] (spF K sp_least_only) :=
  mkF F sc9 len_least_only (ds := d_least_only) (fun cdv A outer s H E hr => have hu := Room.hu hr; (ss_cons (s_for PassesOwn.never rfl (i_enum fr.enum (q_var 0 (pv 0))) (g_tp rfl (gs_cons (pg_name (i := 3) sc9.nd rfl (Or.inl rfl)) (gs_cons (pg_name (i := 4) sc9.nd rfl (Or.inl rfl)) gs_nil))) (ss_one (s_if (t_w (tw_and (t_tru (q_call D_lacks hr quiet0 (a_cons (q_var 4 (pv 4)) (a_cons (q_var 1 (pv 1)) a_nil)))) (tw_and1 (t_not (t_tru (q_call D_lacks hr quiet0 (a_cons (q_var 4 (pv 4)) (a_cons (q_var 2 (pv 2)) a_nil)))))))) (ss_one (s_ret (q_var 3 (pv 3)))) ss_nil)))
  (ss_one (s_ret q_non)))) pure_least_only
theorem sc10 : FnScope ["bolt", "dye", "at", "cell"] ["bolt", "dye"] (defScope (topS 10)) := ⟨rfl, rfl, rfl, by decide +kernel, rfl, by decide +kernel, by decide +kernel⟩
theorem ok_least_waxed (F : FunD K "least_waxed" "least_waxed" (defArgs (topS 10)) (defBody (topS 10)) (defScope (topS 10)) [] [] f fd) (fr : Fr mg) (D_lacks : DefAt P w K mg base CX0 2 "lacks" ["cell", "dye"] (spF K sp_lacks)) : FnOk P w K mg base CX0 3 f fd ["bolt", "dye"] (spF K sp_least_waxed) :=
  mkF F sc10 len_least_waxed (ds := d_least_waxed) (fun cdv A outer s H E hr => have hu := Room.hu hr; (ss_cons (s_for PassesOwn.never rfl (i_enum fr.enum (q_var 0 (pv 0))) (g_tp rfl (gs_cons (pg_name (i := 2) sc10.nd rfl (Or.inl rfl)) (gs_cons (pg_name (i := 3) sc10.nd rfl (Or.inl rfl)) gs_nil))) (ss_one (s_if (t_w (tw_and (t_tru (q_ix (q_var 3 (pv 3)) q_int)) (tw_and1 (t_tru (q_call D_lacks hr quiet0 (a_cons (q_var 3 (pv 3)) (a_cons (q_var 1 (pv 1)) a_nil))))))) (ss_one (s_ret (q_var 2 (pv 2)))) ss_nil)))
  (ss_one (s_ret q_non)))) pure_least_waxed
theorem sc11 : FnScope ["bolt", "one", "other"] ["bolt", "one", "other"] (defScope (topS 11)) := ⟨rfl, rfl, rfl, by decide +kernel, rfl, by decide +kernel, by decide +kernel⟩
theorem ok_apart (F : FunD K "apart" "apart" (defArgs (topS 11)) (defBody (topS 11)) (defScope (topS 11)) [] [] f fd) (fr : Fr mg) (D_clash : DefAt P w K mg base CX0 5 "clash" ["bolt", "one", "other"] (spF K sp_clash)) (D_least_waxed : DefAt P w K mg base CX0 3 "least_waxed" ["bolt", "dye"] (spF K sp_least_waxed)) (D_least_only : DefAt P w K mg base CX0 3 "least_only" ["bolt", "one", "other"] (spF K sp_least_only)) (g_NOW : ∃ t, mg "NOW" = some (.int 12 t)) : FnOk P w K mg base CX0 6 f fd ["bolt", "one", "other"] (spF K sp_apart) :=
  mkF F sc11 len_apart (ds := d_apart) (fun cdv A outer s H E hr => have hu := Room.hu hr; (ss_cons (s_if (t_not (t_tru (q_call D_clash hr quiet0 (a_cons (q_var 0 (pv 0)) (a_cons (q_var 1 (pv 1)) (a_cons (q_var 2 (pv 2)) a_nil)))))) (ss_one (s_ret q_non)) ss_nil)
  (ss_cons (s_if (t_c1 (c_eq hu) (q_var 1 (pv 1)) (q_gi g_NOW)) (ss_one (s_ret (q_tup (a_cons (q_call D_least_waxed hr quiet0 (a_cons (q_var 0 (pv 0)) (a_cons (q_var 2 (pv 2)) a_nil))) a_nil)))) ss_nil)
  (ss_cons (s_if (t_c1 (c_eq hu) (q_var 2 (pv 2)) (q_gi g_NOW)) (ss_one (s_ret (q_tup (a_cons (q_call D_least_waxed hr quiet0 (a_cons (q_var 0 (pv 0)) (a_cons (q_var 1 (pv 1)) a_nil))) a_nil)))) ss_nil)
  (ss_one (s_ret (q_tup (a_cons (q_call D_least_only hr quiet0 (a_cons (q_var 0 (pv 0)) (a_cons (q_var 1 (pv 1)) (a_cons (q_var 2 (pv 2)) a_nil)))) (a_cons (q_call D_least_only hr quiet0 (a_cons (q_var 0 (pv 0)) (a_cons (q_var 2 (pv 2)) (a_cons (q_var 1 (pv 1)) a_nil)))) a_nil))))))))) pure_apart
theorem sc13 : FnScope ["_law_found"] ["_law_found"] (defScope (topS 13)) := ⟨rfl, rfl, rfl, by decide +kernel, rfl, by decide +kernel, by decide +kernel⟩
theorem ok_law_whole (F : FunD K "_law_whole" "_law_whole" (defArgs (topS 13)) (defBody (topS 13)) (defScope (topS 13)) [] [] f fd) (fr : Fr mg)  : FnOk P w K mg base CX0 1 f fd ["_law_found"] (spF K sp_law_whole) :=
  mkF F sc13 len_law_whole (ds := d_law_whole) (fun cdv A outer s H E hr => have hu := Room.hu hr; (ss_one (s_ret (q_and (b_isi (T := "int") fr (by simp) fr.int bv_int (q_var 0 (pv 0))) (q_one (q_not (b_isi (T := "bool") fr (by simp) fr.bool bv_bool (q_var 0 (pv 0))))))))) pure_law_whole
theorem sc14 : FnScope ["_law_found", "_law_one"] ["_law_found"] (defScope (topS 14)) := ⟨rfl, rfl, rfl, by decide +kernel, rfl, by decide +kernel, by decide +kernel⟩
theorem ok_law_wholes (F : FunD K "_law_wholes" "_law_wholes" (defArgs (topS 14)) (defBody (topS 14)) (defScope (topS 14)) [] [] f fd) (fr : Fr mg) (D_law_whole : DefAt P w K mg base CX0 1 "_law_whole" ["_law_found"] (spF K sp_law_whole)) : FnOk P w K mg base CX0 2 f fd ["_law_found"] (spF K sp_law_wholes) :=
  mkF F sc14 len_law_wholes (ds := d_law_wholes) (fun cdv A outer s H E hr => have hu := Room.hu hr; (ss_one (s_ret (q_and (b_isi (T := "list") fr (by simp) fr.list bv_list (q_var 0 (pv 0))) (q_one (b_all fr rfl (a_cons (q_fz (f_lc (own := [("_law_one", 1)]) (tg := (.nm 1)) rfl sc14.nd (i_seq (q_var 0 (pv 0))) (by kernel_rfl) (by simp [Tgt.is]) (fun _ _ _ _ _ => (g_nm 1 (pg_name (i := 1) sc14.nd rfl (Or.inl rfl)))) (fun _ _ _ _ _ => ts_nil) (fun _ _ _ _ _ => (q_call D_law_whole hr quiet0 (a_cons (q_var 1 (pv 1)) a_nil))))) a_nil))))))) pure_law_wholes
theorem sc15 : FnScope ["_law_script", "_law_seed", "_law_cell_here"] ["_law_script"] (defScope (topS 15)) := ⟨rfl, rfl, rfl, by decide +kernel, rfl, by decide +kernel, by decide +kernel⟩
theorem ok_box (F : FunD K "_law_box" "_law_box" (defArgs (topS 15)) (defBody (topS 15)) (defScope (topS 15)) [] [] f fd) (fr : Fr mg) : FnOk P w K mg base CX0 1 f fd ["_law_script"] (spBox K) :=
  F.ok sc15 (fun vs H Q E ⟨_, _, e, _⟩ => by rw [e]; rfl) fun cdv A outer s H vs Q E hr h => ⟨_, PSs.nox (pss_cons (ps_set (i := 1) sc15.nd rfl (Or.inl rfl) pe_int)
    (pss_cons (ps_for PassesOwn.never rfl (pi_list (pe_slice sl_list (pv 0) po_none (po_some pe_int))) (pg_name (i := 2) sc15.nd rfl (Or.inl rfl)) (pss_one (ps_set (i := 1) sc15.nd rfl (Or.inl rfl) (pe_op op_mod (pe_op op_add (pe_op op_add (pe_op op_mul (pv 1) pe_int) (pv 2)) pe_int) pe_int))))
    (pss_one (ps_ret (pe_lst (pa_cons (pe_callTy call_list_of rfl fr.list bv_list (pa_cons (pe_slice sl_list (pv 0) po_none (po_some pe_int)) pa_nil)) (pa_cons pe_int (pa_cons pe_int (pa_cons pe_int (pa_cons (pv 1) pa_nil)))))))))), pure_boxed K vs H Q E h ["_law_script", "_law_seed", "_law_cell_here"] rfl⟩
theorem sc16 : FnScope ["_law_number", "_law_turn", "_law_one", "_law_two"] ["_law_number", "_law_turn"] (defScope (topS 16)) := ⟨rfl, rfl, rfl, by decide +kernel, rfl, by decide +kernel, by decide +kernel⟩
theorem ok_mixed (F : FunD K "_law_mixed" "_law_mixed" (defArgs (topS 16)) (defBody (topS 16)) (defScope (topS 16)) [] [] f fd) : FnOk P w K mg base CX0 1 f fd ["_law_number", "_law_turn"] spMixed :=
  F.ok sc16 (fun vs H Q E ⟨_, _, e, _⟩ => by rw [e]; rfl) fun cdv A outer s H vs Q E hr h => ⟨t_mixed, PSs.nox (pss_cons (ps_set (i := 2) sc16.nd rfl (Or.inl rfl) (pe_op op_mod (pe_op op_add (pe_op op_add (pe_op op_mul (pv 0) pe_int) (pe_op op_mul (pv 1) pe_int)) pe_int) pe_int))
    (pss_cons (ps_set (i := 3) sc16.nd rfl (Or.inl rfl) (pe_op op_mod (pe_op op_add (pe_op op_add (pe_op op_mul (pv 2) (pe_op op_add (pe_op op_mod (pv 2) pe_int) pe_int)) (pe_op op_mul (pv 1) pe_int)) (pe_op op_mod (pv 0) pe_int)) pe_int))
    (pss_one (ps_ret (pe_op op_fdiv (pv 3) pe_int))))), pure_mixed vs H Q E h ["_law_number", "_law_turn", "_law_one", "_law_two"] rfl⟩
theorem sc17 : FnScope ["_law_box_here", "_law_many", "_law_left", "_law_cell_here"] ["_law_box_here", "_law_many"] (defScope (topS 17)) := ⟨rfl, rfl, rfl, by decide +kernel, rfl, by decide +kernel, by decide +kernel⟩
theorem ok_take (F : FunD K "_law_take" "_law_take" (defArgs (topS 17)) (defBody (topS 17)) (defScope (topS 17)) [] [] f fd) (fr : Fr mg) {fm : FuncData} (M : FnOk P w K mg base CX0 1 (He.ga K "_law_mixed") fm ["_law_number", "_law_turn"] spMixed) (bM : Binds K fm ["_law_number", "_law_turn"] [])
    (kM : PySem.W.keepIn K (.ref (He.ga K "_law_mixed")) = true) (gM : mg "_law_mixed" = some (.ref (He.ga K "_law_mixed"))) : FnOk P w K mg base CX0 2 f fd ["_law_box_here", "_law_many"] (spTake K) :=
  F.ok sc17 (fun vs H Q E ⟨_, _, as, _, _, _, r, ⟨_, e, _⟩, _⟩ => by rw [argsOk_len r, e]; rfl) fun cdv A outer s H vs Q E hr h => ⟨t_taken K, PSs.nox (
    pss_cons (ps_asg (pe_op op_add (px (pv 0) pe_int) pe_int) (pg_sub (pv 0) pe_int set_list))
    (pss_cons (ps_if (pt_cmpR op_gt (px (pv 0) pe_int) pe_int (nomark _)) (pss_cons (ps_set (i := 2) sc17.nd rfl (Or.inl rfl) (px (pv 0) pe_int)) (pss_cons (ps_asg (pe_op op_fdiv (pv 2) (pv 1)) (pg_sub (pv 0) pe_int set_list)) (pss_one (ps_ret (pe_op op_mod (pv 2) (pv 1)))))) pss_nil)
    (pss_cons (ps_if (pt_cmpR op_ge (px (pv 0) pe_int) (pe_callB call_len rfl fr.len bv_len (pa_cons (px (pv 0) pe_int) pa_nil)) (nomark _)) (pss_one (ps_ret (pe_op op_mod (pe_call M hr rfl gM kM bM .nil pass0 (pa_cons (px (pv 0) pe_int) (pa_cons (px (pv 0) pe_int) pa_nil))) (pv 1)))) pss_nil)
    (pss_cons (ps_set (i := 3) sc17.nd rfl (Or.inl rfl) (px (px (pv 0) pe_int) (px (pv 0) pe_int)))
    (pss_cons (ps_asg (pe_op op_add (px (pv 0) pe_int) pe_int) (pg_sub (pv 0) pe_int set_list))
    (pss_cons (ps_if (pt_cmpR op_lt (pv 3) (pe_op op_pow pe_int pe_int) (nomark _)) (pss_one (ps_ret (pe_op op_mod (pe_call M hr rfl gM kM bM .nil pass0 (pa_cons (pv 3) (pa_cons (px (pv 0) pe_int) pa_nil))) (pv 1)))) pss_nil)
    (pss_cons (ps_asg (pe_op op_fdiv (pv 3) (pv 1)) (pg_sub (pv 0) pe_int set_list)) (pss_one (ps_ret (pe_op op_mod (pv 3) (pv 1))))))))))), pure_taken vs H Q E h ["_law_box_here", "_law_many", "_law_left", "_law_cell_here"] rfl⟩
theorem sc18 : FnScope ["_law_box_here", "_law_pots", "_law_size", "_law_way", "_law_ends", "_law_rows", "_law_at", "_law_row", "_law_low", "_law_high", "_law_dye"] ["_law_box_here", "_law_pots", "_law_size"] (defScope (topS 18)) := ⟨rfl, rfl, rfl, by decide +kernel, rfl, by decide +kernel, by decide +kernel⟩
theorem ok_law_lacks (F : FunD K "_law_lacks" "_law_lacks" (defArgs (topS 18)) (defBody (topS 18)) (defScope (topS 18)) [] [] f fd) (fr : Fr mg) (D_law_take : DefAt P w K mg base CX0 2 "_law_take" ["_law_box_here", "_law_many"] (spF K sp_take)) : FnOk P w K mg base CX0 3 f fd ["_law_box_here", "_law_pots", "_law_size"] (spF K sp_law_lacks) :=
  mkF F sc18 len_law_lacks (ds := d_law_lacks) (fun cdv A outer s H E hr => have hu := Room.hu hr; (ss_cons (s_set (i := 3) sc18.nd rfl (Or.inl rfl) (q_call D_law_take hr quiet0 (a_box 0 (pv 0) (a_cons q_int a_nil))))
  (ss_cons (s_setLc (i := 4) (own := [("_law_dye", 10)]) (tg := (.nm 10)) rfl sc18.nd rfl rfl (sw_true rfl rfl rfl (by decide +kernel)) (fun _ _ _ h => h) (i_rng fr.range (q_var 1 (pv 1))) (by kernel_rfl) (by simp [Tgt.is]) (fun _ _ _ _ _ => (g_nm 10 (pg_name (i := 10) sc18.nd rfl (Or.inl rfl)))) (fun _ _ _ _ _ => ts_nil) (fun _ _ _ _ _ => (q_tup (a_cons (q_call D_law_take hr quiet0 (a_box 0 (pv 0) (a_cons (q_add (q_var 2 (pv 2)) q_int) a_nil))) (a_cons (q_call D_law_take hr quiet0 (a_box 0 (pv 0) (a_cons (q_add (q_var 2 (pv 2)) q_int) a_nil))) a_nil)))))
  (ss_cons (s_setO (i := 5) sc18.nd rfl (Or.inl rfl) (f_lst a_nil))
  (ss_cons (s_for PassesOwn.never rfl (i_rng fr.range (q_var 2 (pv 2))) (g_nm 6 (pg_name (i := 6) sc18.nd rfl (Or.inl rfl))) (ss_cons (s_setO (i := 7) sc18.nd rfl (Or.inl rfl) (f_lst a_nil))
  (ss_cons (s_for PassesOwn.never rfl (i_seq (q_var 4 (pv 4))) (g_tp rfl (gs_cons (pg_name (i := 8) sc18.nd rfl (Or.inl rfl)) (gs_cons (pg_name (i := 9) sc18.nd rfl (Or.inl rfl)) gs_nil))) (ss_one (s_if (t_c1 (c_eq hu) (q_var 3 (pv 3)) q_int) (ss_one (s_append 7 (pv 7) (q_c1 (c_eq hu) (q_call D_law_take hr quiet0 (a_box 0 (pv 0) (a_cons q_int a_nil))) q_int) (h := fun te ht => pe_bm PySem.F.plainAttrs_list PySem.F.slot_list_append PySem.F.type_list_append mt_append (pv 7) (pa_cons ht pa_nil)))) (ss_one (s_if (t_c1 (c_eq hu) (q_var 3 (pv 3)) q_int) (ss_one (s_append 7 (pv 7) (q_c2 c_le c_lt (b_min fr rfl (a_cons (q_var 8 (pv 8)) (a_cons (q_var 9 (pv 9)) a_nil))) (q_var 6 (pv 6)) (b_max fr rfl (a_cons (q_var 8 (pv 8)) (a_cons (q_var 9 (pv 9)) a_nil)))) (h := fun te ht => pe_bm PySem.F.plainAttrs_list PySem.F.slot_list_append PySem.F.type_list_append mt_append (pv 7) (pa_cons ht pa_nil)))) (ss_one (s_if (t_c1 (c_eq hu) (q_var 3 (pv 3)) q_int) (ss_one (s_append 7 (pv 7) (q_c1 c_lt (q_var 6 (pv 6)) (q_var 8 (pv 8))) (h := fun te ht => pe_bm PySem.F.plainAttrs_list PySem.F.slot_list_append PySem.F.type_list_append mt_append (pv 7) (pa_cons ht pa_nil)))) (ss_one (s_append 7 (pv 7) (q_c1 (c_ne hu) (q_c1 c_lt (q_var 6 (pv 6)) (q_var 8 (pv 8))) (q_c1 (c_eq hu) (q_var 6 (pv 6)) (q_var 9 (pv 9)))) (h := fun te ht => pe_bm PySem.F.plainAttrs_list PySem.F.slot_list_append PySem.F.type_list_append mt_append (pv 7) (pa_cons ht pa_nil)))))))))))
  (ss_frz 7 (ss_one (s_append 5 (pv 5) (q_var 7 (pv 7)) (h := fun te ht => pe_bm PySem.F.plainAttrs_list PySem.F.slot_list_append PySem.F.type_list_append mt_append (pv 5) (pa_cons ht pa_nil))))))))
  (ss_one (s_retL 5 (pv 5)))))))) pure_law_lacks
theorem sc19 : FnScope ["_law_box_here", "_law_row", "_law_loose", "_law_wet", "_law_stain", "_law_want", "_law_bit", "_law_shade"] ["_law_box_here", "_law_row", "_law_loose", "_law_wet"] (defScope (topS 19)) := ⟨rfl, rfl, rfl, by decide +kernel, rfl, by decide +kernel, by decide +kernel⟩
theorem ok_law_cell (F : FunD K "_law_cell" "_law_cell" (defArgs (topS 19)) (defBody (topS 19)) (defScope (topS 19)) [] [] f fd) (fr : Fr mg) (D_law_take : DefAt P w K mg base CX0 2 "_law_take" ["_law_box_here", "_law_many"] (spF K sp_take)) : FnOk P w K mg base CX0 3 f fd ["_law_box_here", "_law_row", "_law_loose", "_law_wet"] (spF K sp_law_cell) :=
  mkF F sc19 len_law_cell (ds := d_law_cell) (fun cdv A outer s H E hr => have hu := Room.hu hr; (ss_cons (s_setO (i := 4) sc19.nd rfl (Or.inl rfl) (f_lst a_nil))
  (ss_cons (s_setO (i := 5) sc19.nd rfl (Or.inl rfl) (f_lst a_nil))
  (ss_cons (s_for PassesOwn.never rfl (i_seq (q_var 1 (pv 1))) (g_nm 6 (pg_name (i := 6) sc19.nd rfl (Or.inl rfl))) (ss_cons (s_set (i := 7) sc19.nd rfl (Or.inl rfl) (q_call D_law_take hr quiet0 (a_box 0 (pv 0) (a_cons q_int a_nil))))
  (ss_cons (s_append 4 (pv 4) (q_var 7 (pv 7)) (h := fun te ht => pe_bm PySem.F.plainAttrs_list PySem.F.slot_list_append PySem.F.type_list_append mt_append (pv 4) (pa_cons ht pa_nil)))
  (ss_cons (s_append 5 (pv 5) (q_add (q_var 7 (pv 7)) (b_int fr (a_cons (q_var 6 (pv 6)) a_nil))) (h := fun te ht => pe_bm PySem.F.plainAttrs_list PySem.F.slot_list_append PySem.F.type_list_append mt_append (pv 5) (pa_cons ht pa_nil)))
  (ss_one (s_if (t_w (tw_and (t_c1 c_gt (q_var 2 (pv 2)) q_int) (tw_and1 (t_c1 (c_eq hu) (q_call D_law_take hr quiet0 (a_box 0 (pv 0) (a_cons (q_var 2 (pv 2)) a_nil))) q_int)))) (ss_cons (s_put 4 (fun _ _ he ha => ps_asg he (pg_sub (pv 4) ha set_list)) (q_neg q_int) (q_call D_law_take hr quiet0 (a_box 0 (pv 0) (a_cons q_int a_nil))))
  (ss_one (s_put 5 (fun _ _ he ha => ps_asg he (pg_sub (pv 5) ha set_list)) (q_neg q_int) (q_call D_law_take hr quiet0 (a_box 0 (pv 0) (a_cons q_int a_nil)))))) ss_nil))))))
  (ss_one (s_ret (q_bw 5 (q_bw 4 (q_tup (a_cons (b_tuple fr (a_cons (q_var 4 (pv 4)) a_nil)) (a_cons (q_and (q_c1 c_gt (q_var 3 (pv 3)) q_int) (q_one (q_c1 c_lt (q_call D_law_take hr quiet0 (a_box 0 (pv 0) (a_cons q_int a_nil))) (q_var 3 (pv 3))))) (a_cons (b_tuple fr (a_cons (q_var 5 (pv 5)) a_nil)) a_nil)))))))))))) pure_law_cell
theorem sc20 : FnScope ["_law_box_here", "_law_pots", "_law_size", "_law_loose", "_law_wet", "_law_rows", "_law_row"] ["_law_box_here", "_law_pots", "_law_size", "_law_loose"] (defScope (topS 20)) := ⟨rfl, rfl, rfl, by decide +kernel, rfl, by decide +kernel, by decide +kernel⟩
theorem ok_law_bolt (F : FunD K "_law_bolt" "_law_bolt" (defArgs (topS 20)) (defBody (topS 20)) (defScope (topS 20)) [] [] f fd) (fr : Fr mg) (D_law_take : DefAt P w K mg base CX0 2 "_law_take" ["_law_box_here", "_law_many"] (spF K sp_take)) (D_law_lacks : DefAt P w K mg base CX0 3 "_law_lacks" ["_law_box_here", "_law_pots", "_law_size"] (spF K sp_law_lacks)) (D_law_cell : DefAt P w K mg base CX0 3 "_law_cell" ["_law_box_here", "_law_row", "_law_loose", "_law_wet"] (spF K sp_law_cell)) : FnOk P w K mg base CX0 4 f fd ["_law_box_here", "_law_pots", "_law_size", "_law_loose"] (spF K sp_law_bolt) :=
  mkF F sc20 len_law_bolt (ds := d_law_bolt) (fun cdv A outer s H E hr => have hu := Room.hu hr; (ss_cons (s_set (i := 4) sc20.nd rfl (Or.inr rfl) (q_call D_law_take hr quiet0 (a_box 0 (pv 0) (a_cons q_int a_nil))))
  (ss_cons (s_set (i := 5) sc20.nd rfl (Or.inl rfl) (q_call D_law_lacks hr quiet0 (a_box 0 (pv 0) (a_cons (q_var 1 (pv 1)) (a_cons (q_var 2 (pv 2)) a_nil)))))
  (ss_one (s_ret (q_fz (f_lc (own := [("_law_row", 6)]) (tg := (.nm 6)) rfl sc20.nd (i_seq (q_var 5 (pv 5))) (by kernel_rfl) (by simp [Tgt.is]) (fun _ _ _ _ _ => (g_nm 6 (pg_name (i := 6) sc20.nd rfl (Or.inl rfl)))) (fun _ _ _ _ _ => ts_nil) (fun _ _ _ _ _ => (q_call D_law_cell hr quiet0 (a_box 0 (pv 0) (a_cons (q_var 6 (pv 6)) (a_cons (q_var 3 (pv 3)) (a_cons (q_var 4 (pv 4)) a_nil))))))))))))) pure_law_bolt
theorem sc21 : FnScope ["_law_box_here"] ["_law_box_here"] (defScope (topS 21)) := ⟨rfl, rfl, rfl, by decide +kernel, rfl, by decide +kernel, by decide +kernel⟩
theorem ok_law_sizes (F : FunD K "_law_sizes" "_law_sizes" (defArgs (topS 21)) (defBody (topS 21)) (defScope (topS 21)) [] [] f fd) (fr : Fr mg) (D_law_take : DefAt P w K mg base CX0 2 "_law_take" ["_law_box_here", "_law_many"] (spF K sp_take)) : FnOk P w K mg base CX0 3 f fd ["_law_box_here"] (spF K sp_law_sizes) :=
  mkF F sc21 len_law_sizes (ds := d_law_sizes) (fun cdv A outer s H E hr => have hu := Room.hu hr; (ss_cons (s_if (t_c1 (c_eq hu) (q_call D_law_take hr quiet0 (a_box 0 (pv 0) (a_cons q_int a_nil))) q_int) (ss_one (s_ret (q_tup (a_cons (q_call D_law_take hr quiet0 (a_box 0 (pv 0) (a_cons q_int a_nil))) (a_cons (q_call D_law_take hr quiet0 (a_box 0 (pv 0) (a_cons q_int a_nil))) a_nil))))) ss_nil)
  (ss_one (s_ret (q_tup (a_cons (q_call D_law_take hr quiet0 (a_box 0 (pv 0) (a_cons q_int a_nil))) (a_cons (q_call D_law_take hr quiet0 (a_box 0 (pv 0) (a_cons q_int a_nil))) a_nil))))))) pure_law_sizes
theorem sc22 : FnScope ["_law_rows", "_law_dye", "_law_at"] ["_law_rows", "_law_dye"] (defScope (topS 22)) := ⟨rfl, rfl, rfl, by decide +kernel, rfl, by decide +kernel, by decide +kernel⟩
theorem ok_law_lack (F : FunD K "_law_lack" "_law_lack" (defArgs (topS 22)) (defBody (topS 22)) (defScope (topS 22)) [] [] f fd) (fr : Fr mg)  : FnOk P w K mg base CX0 1 f fd ["_law_rows", "_law_dye"] (spF K sp_law_lack) :=
  mkF F sc22 len_law_lack (ds := d_law_lack) (fun cdv A outer s H E hr => have hu := Room.hu hr; (ss_one (s_ret (q_fz (f_lc (own := [("_law_at", 2)]) (tg := (.nm 2)) rfl sc22.nd (i_rng fr.range (b_len fr (a_cons (q_var 0 (pv 0)) a_nil))) (by kernel_rfl) (by simp [Tgt.is]) (fun _ _ _ _ _ => (g_nm 2 (pg_name (i := 2) sc22.nd rfl (Or.inl rfl)))) (fun _ _ _ _ _ => (ts_one (t_c1 c_gt (q_ix (q_ix (q_ix (q_var 0 (pv 0)) (q_var 2 (pv 2))) q_int) (q_var 1 (pv 1))) (q_ix (q_ix (q_ix (q_var 0 (pv 0)) (q_var 2 (pv 2))) q_int) (q_var 1 (pv 1)))))) (fun _ _ _ _ _ => (q_var 2 (pv 2)))))))) pure_law_lack
theorem sc23 : FnScope ["_law_rows", "_law_pots", "_law_dye"] ["_law_rows", "_law_pots"] (defScope (topS 23)) := ⟨rfl, rfl, rfl, by decide +kernel, rfl, by decide +kernel, by decide +kernel⟩
theorem ok_law_need (F : FunD K "_law_need" "_law_need" (defArgs (topS 23)) (defBody (topS 23)) (defScope (topS 23)) [] [] f fd) (fr : Fr mg) (D_law_lack : DefAt P w K mg base CX0 1 "_law_lack" ["_law_rows", "_law_dye"] (spF K sp_law_lack)) : FnOk P w K mg base CX0 2 f fd ["_law_rows", "_law_pots"] (spF K sp_law_need) :=
  mkF F sc23 len_law_need (ds := d_law_need) (fun cdv A outer s H E hr => have hu := Room.hu hr; (ss_one (s_ret (q_fz (f_lc (own := [("_law_dye", 2)]) (tg := (.nm 2)) rfl sc23.nd (i_rng fr.range (q_var 1 (pv 1))) (by kernel_rfl) (by simp [Tgt.is]) (fun _ _ _ _ _ => (g_nm 2 (pg_name (i := 2) sc23.nd rfl (Or.inl rfl)))) (fun _ _ _ _ _ => (ts_one (t_c1 c_gt (b_len fr (a_cons (q_call D_law_lack hr quiet0 (a_cons (q_var 0 (pv 0)) (a_cons (q_var 2 (pv 2)) a_nil))) a_nil)) q_int))) (fun _ _ _ _ _ => (q_var 2 (pv 2)))))))) pure_law_need
theorem sc24 : FnScope ["_law_rows", "_law_one", "_law_other", "_law_mine", "_law_theirs", "_law_at"] ["_law_rows", "_law_one", "_law_other"] (defScope (topS 24)) := ⟨rfl, rfl, rfl, by decide +kernel, rfl, by decide +kernel, by decide +kernel⟩
theorem ok_law_under (F : FunD K "_law_under" "_law_under" (defArgs (topS 24)) (defBody (topS 24)) (defScope (topS 24)) [] [] f fd) (fr : Fr mg) (D_law_lack : DefAt P w K mg base CX0 1 "_law_lack" ["_law_rows", "_law_dye"] (spF K sp_law_lack)) : FnOk P w K mg base CX0 2 f fd ["_law_rows", "_law_one", "_law_other"] (spF K sp_law_under) :=
  mkF F sc24 len_law_under (ds := d_law_under) (fun cdv A outer s H E hr => have hu := Room.hu hr; (ss_cons (s_if (t_w (tw_or (t_c1 (c_eq hu) (q_var 1 (pv 1)) (q_var 2 (pv 2))) (tw_or1 (t_c1 (c_eq hu) (q_var 1 (pv 1)) q_int)))) (ss_one (s_ret q_bl)) ss_nil)
  (ss_cons (s_set (i := 3) sc24.nd rfl (Or.inl rfl) (q_call D_law_lack hr quiet0 (a_cons (q_var 0 (pv 0)) (a_cons (q_var 1 (pv 1)) a_nil))))
  (ss_cons (s_if (t_c1 (c_eq hu) (q_var 2 (pv 2)) q_int) (ss_one (s_ret (q_not (b_any fr rfl (a_cons (q_fz (f_lc (own := [("_law_at", 5)]) (tg := (.nm 5)) rfl sc24.nd (i_seq (q_var 3 (pv 3))) (by kernel_rfl) (by simp [Tgt.is]) (fun _ _ _ _ _ => (g_nm 5 (pg_name (i := 5) sc24.nd rfl (Or.inl rfl)))) (fun _ _ _ _ _ => ts_nil) (fun _ _ _ _ _ => (q_ix (q_ix (q_var 0 (pv 0)) (q_var 5 (pv 5))) q_int)))) a_nil))))) ss_nil)
  (ss_cons (s_set (i := 4) sc24.nd rfl (Or.inr rfl) (q_call D_law_lack hr quiet0 (a_cons (q_var 0 (pv 0)) (a_cons (q_var 2 (pv 2)) a_nil))))
  (ss_cons (s_if (t_c1 (c_eq hu) (q_var 3 (pv 3)) (q_var 4 (pv 4))) (ss_one (s_ret (q_c1 c_gt (q_var 1 (pv 1)) (q_var 2 (pv 2))))) ss_nil)
  (ss_one (s_ret (b_all fr rfl (a_cons (q_fz (f_lc (own := [("_law_at", 5)]) (tg := (.nm 5)) rfl sc24.nd (i_seq (q_var 3 (pv 3))) (by kernel_rfl) (by simp [Tgt.is]) (fun _ _ _ _ _ => (g_nm 5 (pg_name (i := 5) sc24.nd rfl (Or.inl rfl)))) (fun _ _ _ _ _ => ts_nil) (fun _ _ _ _ _ => (q_c1 (c_in hu) (q_var 5 (pv 5)) (q_var 4 (pv 4)))))) a_nil)))))))))) pure_law_under
theorem sc25 : FnScope ["_law_rows", "_law_one", "_law_other"] ["_law_rows", "_law_one", "_law_other"] (defScope (topS 25)) := ⟨rfl, rfl, rfl, by decide +kernel, rfl, by decide +kernel, by decide +kernel⟩
theorem ok_law_clash (F : FunD K "_law_clash" "_law_clash" (defArgs (topS 25)) (defBody (topS 25)) (defScope (topS 25)) [] [] f fd) (fr : Fr mg) (D_law_under : DefAt P w K mg base CX0 2 "_law_under" ["_law_rows", "_law_one", "_law_other"] (spF K sp_law_under)) : FnOk P w K mg base CX0 3 f fd ["_law_rows", "_law_one", "_law_other"] (spF K sp_law_clash) :=
  mkF F sc25 len_law_clash (ds := d_law_clash) (fun cdv A outer s H E hr => have hu := Room.hu hr; (ss_one (s_ret (q_and (q_c1 (c_ne hu) (q_var 1 (pv 1)) (q_var 2 (pv 2))) (q_and (q_not (q_call D_law_under hr quiet0 (a_cons (q_var 0 (pv 0)) (a_cons (q_var 1 (pv 1)) (a_cons (q_var 2 (pv 2)) a_nil))))) (q_one (q_not (q_call D_law_under hr quiet0 (a_cons (q_var 0 (pv 0)) (a_cons (q_var 2 (pv 2)) (a_cons (q_var 1 (pv 1)) a_nil))))))))))) pure_law_clash
theorem sc26 : FnScope ["_law_box_here", "_law_some", "_law_found", "_law_one", "_law_other", "_law_k"] ["_law_box_here", "_law_some"] (defScope (topS 26)) := ⟨rfl, rfl, rfl, by decide +kernel, rfl, by decide +kernel, by decide +kernel⟩
theorem ok_law_pairs (F : FunD K "_law_pairs" "_law_pairs" (defArgs (topS 26)) (defBody (topS 26)) (defScope (topS 26)) [] [] f fd) (fr : Fr mg) (D_law_take : DefAt P w K mg base CX0 2 "_law_take" ["_law_box_here", "_law_many"] (spF K sp_take)) : FnOk P w K mg base CX0 3 f fd ["_law_box_here", "_law_some"] (spF K sp_law_pairs) :=
  mkF F sc26 len_law_pairs (ds := d_law_pairs) (fun cdv A outer s H E hr => have hu := Room.hu hr; (ss_cons (s_setO (i := 2) sc26.nd rfl (Or.inl rfl) (f_lst a_nil))
  (ss_cons (s_if (t_c1 c_le (b_len fr (a_cons (q_var 1 (pv 1)) a_nil)) q_int) (ss_cons (s_for PassesOwn.never rfl (i_seq (q_var 1 (pv 1))) (g_nm 3 (pg_name (i := 3) sc26.nd rfl (Or.inl rfl))) (ss_one (s_for PassesOwn.never rfl (i_seq (q_var 1 (pv 1))) (g_nm 4 (pg_name (i := 4) sc26.nd rfl (Or.inl rfl))) (ss_one (s_append 2 (pv 2) (q_tup (a_cons (q_var 3 (pv 3)) (a_cons (q_var 4 (pv 4)) a_nil))) (h := fun te ht => pe_bm PySem.F.plainAttrs_list PySem.F.slot_list_append PySem.F.type_list_append mt_append (pv 2) (pa_cons ht pa_nil)))))))
  (ss_one (s_retL 2 (pv 2)))) ss_nil)
  (ss_cons (s_for PassesOwn.never rfl (i_rng fr.range q_int) (g_nm 5 (pg_name (i := 5) sc26.nd rfl (Or.inl rfl))) (ss_one (s_append 2 (pv 2) (q_tup (a_cons (q_ix (q_var 1 (pv 1)) (q_call D_law_take hr quiet0 (a_box 0 (pv 0) (a_cons (b_len fr (a_cons (q_var 1 (pv 1)) a_nil)) a_nil)))) (a_cons (q_ix (q_var 1 (pv 1)) (q_call D_law_take hr quiet0 (a_box 0 (pv 0) (a_cons (b_len fr (a_cons (q_var 1 (pv 1)) a_nil)) a_nil)))) a_nil))) (h := fun te ht => pe_bm PySem.F.plainAttrs_list PySem.F.slot_list_append PySem.F.type_list_append mt_append (pv 2) (pa_cons ht pa_nil)))))
  (ss_one (s_retL 2 (pv 2))))))) pure_law_pairs
theorem sc27 : FnScope ["_law_rows", "_law_one", "_law_other", "_law_mine", "_law_theirs", "_law_at"] ["_law_rows", "_law_one", "_law_other"] (defScope (topS 27)) := ⟨rfl, rfl, rfl, by decide +kernel, rfl, by decide +kernel, by decide +kernel⟩
theorem ok_law_reason (F : FunD K "_law_reason" "_law_reason" (defArgs (topS 27)) (defBody (topS 27)) (defScope (topS 27)) [] [] f fd) (fr : Fr mg) (D_law_clash : DefAt P w K mg base CX0 3 "_law_clash" ["_law_rows", "_law_one", "_law_other"] (spF K sp_law_clash)) (D_law_lack : DefAt P w K mg base CX0 1 "_law_lack" ["_law_rows", "_law_dye"] (spF K sp_law_lack)) : FnOk P w K mg base CX0 4 f fd ["_law_rows", "_law_one", "_law_other"] (spF K sp_law_reason) :=
  mkF F sc27 len_law_reason (ds := d_law_reason) (fun cdv A outer s H E hr => have hu := Room.hu hr; (ss_cons (s_if (t_not (t_tru (q_call D_law_clash hr quiet0 (a_cons (q_var 0 (pv 0)) (a_cons (q_var 1 (pv 1)) (a_cons (q_var 2 (pv 2)) a_nil)))))) (ss_one (s_ret q_non)) ss_nil)
  (ss_cons (s_if (t_c1 (c_in hu) q_int (q_tup (a_cons (q_var 1 (pv 1)) (a_cons (q_var 2 (pv 2)) a_nil)))) (ss_one (s_ret (q_tup (a_cons (b_least fr rfl (a_cons (q_fz (f_lc (own := [("_law_at", 5)]) (tg := (.nm 5)) rfl sc27.nd (i_seq (q_call D_law_lack hr quiet0 (a_cons (q_var 0 (pv 0)) (a_cons (b_min fr rfl (a_cons (q_var 1 (pv 1)) (a_cons (q_var 2 (pv 2)) a_nil))) a_nil)))) (by kernel_rfl) (by simp [Tgt.is]) (fun _ _ _ _ _ => (g_nm 5 (pg_name (i := 5) sc27.nd rfl (Or.inl rfl)))) (fun _ _ _ _ _ => (ts_one (t_tru (q_ix (q_ix (q_var 0 (pv 0)) (q_var 5 (pv 5))) q_int)))) (fun _ _ _ _ _ => (q_var 5 (pv 5))))) a_nil)) a_nil)))) ss_nil)
  (ss_cons (s_set (i := 3) sc27.nd rfl (Or.inr rfl) (q_call D_law_lack hr quiet0 (a_cons (q_var 0 (pv 0)) (a_cons (q_var 1 (pv 1)) a_nil))))
  (ss_cons (s_set (i := 4) sc27.nd rfl (Or.inr rfl) (q_call D_law_lack hr quiet0 (a_cons (q_var 0 (pv 0)) (a_cons (q_var 2 (pv 2)) a_nil))))
  (ss_one (s_ret (q_tup (a_cons (b_least fr rfl (a_cons (q_fz (f_lc (own := [("_law_at", 5)]) (tg := (.nm 5)) rfl sc27.nd (i_seq (q_var 3 (pv 3))) (by kernel_rfl) (by simp [Tgt.is]) (fun _ _ _ _ _ => (g_nm 5 (pg_name (i := 5) sc27.nd rfl (Or.inl rfl)))) (fun _ _ _ _ _ => (ts_one (t_c1 (c_notIn hu) (q_var 5 (pv 5)) (q_var 4 (pv 4))))) (fun _ _ _ _ _ => (q_var 5 (pv 5))))) a_nil)) (a_cons (b_least fr rfl (a_cons (q_fz (f_lc (own := [("_law_at", 5)]) (tg := (.nm 5)) rfl sc27.nd (i_seq (q_var 4 (pv 4))) (by kernel_rfl) (by simp [Tgt.is]) (fun _ _ _ _ _ => (g_nm 5 (pg_name (i := 5) sc27.nd rfl (Or.inl rfl)))) (fun _ _ _ _ _ => (ts_one (t_c1 (c_notIn hu) (q_var 5 (pv 5)) (q_var 3 (pv 3))))) (fun _ _ _ _ _ => (q_var 5 (pv 5))))) a_nil)) a_nil)))))))))) pure_law_reason
theorem sc28 : FnScope ["_law_script", "_law_box_here", "_law_pots", "_law_size", "_law_rows", "_law_kept", "_law_some", "_law_one", "_law_other", "_law_found", "_law_due"] ["_law_script"] (defScope (topS 28)) := ⟨rfl, rfl, rfl, by decide +kernel, rfl, by decide +kernel, by decide +kernel⟩
--L
def dl6 : DS := dRet (dOp fEq (dVar 4) (dVar 5))
def dl5 : DS := dSeq (dFor (iSeqD (dCall sp_law_pairs (dBoxA 1 (dCons (dVar 6) (dNil))))) (.tp [7, 8]) (dSeq (dSet 9 (dCall sp_apart (dCons (dVar 4) (dCons (dVar 7) (dCons (dVar 8) (dNil))))))
  (dSeq (dSet 10 (dCall sp_law_reason (dCons (dVar 5) (dCons (dVar 7) (dCons (dVar 8) (dNil))))))
  (dSeq (dIfS (dAndT (dTB (dOp fIsN (dVar 10) (dC .none))) (dTB (dOp fNotN (dVar 9) (dC .none)))) (dRet (dC (.bool false))) (dNext))
  (dIfS (dAndT (dTB (dOp fNotN (dVar 10) (dC .none))) (dNotT (dAndT (dTru (dIsi "tuple" (dVar 9))) (dAndT (dTru (dCall sp_law_wholes (dCons (dFz (dCBF fList (dCons (dVar 9) (dNil)))) (dNil)))) (dTB (dOp fEq (dVar 9) (dVar 10))))))) (dRet (dC (.bool false))) (dNext))))))
  (dl6)
def dl4 : DS := dSeq (dSet 6 (dOp fAdd (dCall sp_law_need (dCons (dVar 5) (dCons (dVar 2) (dNil)))) (dFz (dLst (dCons (dC (.int 12)) (dNil))))))
  (dl5)
def dl3 : DS := dSeq (dSet 5 (dFz (dCBF fList (dCons (dVar 4) (dNil)))))
  (dl4)
def dl2 : DS := dSeq (dSet 4 (dCall sp_law_bolt (dBoxA 1 (dCons (dVar 2) (dCons (dVar 3) (dCons (dOp fMul (dC (.int 6)) (dCall sp_take (dBoxA 1 (dCons (dC (.int 3)) (dNil))))) (dNil)))))))
  (dl3)
def d_law : DS := dSeq (dSetT (.tp [2, 3]) (dCall sp_law_sizes (dBoxA 1 (dNil))))
  (dl2)
theorem ok_law (F : FunD K "law" "law" (defArgs (topS 28)) (defBody (topS 28)) (defScope (topS 28)) [] [] f fd) (fr : Fr mg) {fb : FuncData} (B : FnOk P w K mg base CX0 1 (He.ga K "_law_box") fb ["_law_script"] (spBox K)) (bB : Binds K fb ["_law_script"] []) (kB : PySem.W.keepIn K (.ref (He.ga K "_law_box")) = true) (gB : mg "_law_box" = some (.ref (He.ga K "_law_box"))) (D_law_sizes : DefAt P w K mg base CX0 3 "_law_sizes" ["_law_box_here"] (spF K sp_law_sizes)) (D_law_bolt : DefAt P w K mg base CX0 4 "_law_bolt" ["_law_box_here", "_law_pots", "_law_size", "_law_loose"] (spF K sp_law_bolt)) (D_law_take : DefAt P w K mg base CX0 2 "_law_take" ["_law_box_here", "_law_many"] (spF K sp_take)) (D_law_need : DefAt P w K mg base CX0 2 "_law_need" ["_law_rows", "_law_pots"] (spF K sp_law_need)) (D_law_pairs : DefAt P w K mg base CX0 3 "_law_pairs" ["_law_box_here", "_law_some"] (spF K sp_law_pairs)) (D_apart : DefAt P w K mg base CX0 6 "apart" ["bolt", "one", "other"] (spF K sp_apart)) (D_law_reason : DefAt P w K mg base CX0 4 "_law_reason" ["_law_rows", "_law_one", "_law_other"] (spF K sp_law_reason)) (D_law_wholes : DefAt P w K mg base CX0 2 "_law_wholes" ["_law_found"] (spF K sp_law_wholes)) (pure : d_law { nx := fun _ => False, rt := fun d => d = .bool true } (startLaw 11)) : FnOk P w K mg base CX0 7 f fd ["_law_script"] (spLaw K) :=
  mkLaw (ds := d_law) (N := ["_law_script", "_law_box_here", "_law_pots", "_law_size", "_law_rows", "_law_kept", "_law_some", "_law_one", "_law_other", "_law_found", "_law_due"]) F sc28 (by decide) (fun cdv A outer s H E hr => ps_set (i := 1) sc28.nd rfl (Or.inl rfl) (pe_call B (hr.mono (by decide)) rfl gB kB bB .nil pass0 (pa_cons (pv 0) pa_nil)))
  (fun cdv A outer s H E hr => have hu := Room.hu hr; (ss_cons (s_setT (q_call D_law_sizes hr quiet0 (a_box 1 (pv 1) a_nil)) (g_tp rfl (gs_cons (pg_name (i := 2) sc28.nd rfl (Or.inl rfl)) (gs_cons (pg_name (i := 3) sc28.nd rfl (Or.inl rfl)) gs_nil))))
  (ss_cons (s_set (i := 4) sc28.nd rfl (Or.inl rfl) (q_call D_law_bolt hr quiet0 (a_box 1 (pv 1) (a_cons (q_var 2 (pv 2)) (a_cons (q_var 3 (pv 3)) (a_cons (q_mul q_int (q_call D_law_take hr quiet0 (a_box 1 (pv 1) (a_cons q_int a_nil)))) a_nil))))))
  (ss_cons (s_set (i := 5) sc28.nd rfl (Or.inl rfl) (q_fz (b_list fr (a_cons (q_var 4 (pv 4)) a_nil))))
  (ss_cons (s_set (i := 6) sc28.nd rfl (Or.inl rfl) (q_add (q_call D_law_need hr quiet0 (a_cons (q_var 5 (pv 5)) (a_cons (q_var 2 (pv 2)) a_nil))) (q_fz (f_lst (a_cons q_int a_nil)))))
  (ss_cons (s_for PassesOwn.never rfl (i_seq (q_call D_law_pairs hr quiet0 (a_box 1 (pv 1) (a_cons (q_var 6 (pv 6)) a_nil)))) (g_tp rfl (gs_cons (pg_name (i := 7) sc28.nd rfl (Or.inl rfl)) (gs_cons (pg_name (i := 8) sc28.nd rfl (Or.inl rfl)) gs_nil))) (ss_cons (s_set (i := 9) sc28.nd rfl (Or.inl rfl) (q_call D_apart hr quiet0 (a_cons (q_var 4 (pv 4)) (a_cons (q_var 7 (pv 7)) (a_cons (q_var 8 (pv 8)) a_nil)))))
  (ss_cons (s_set (i := 10) sc28.nd rfl (Or.inl rfl) (q_call D_law_reason hr quiet0 (a_cons (q_var 5 (pv 5)) (a_cons (q_var 7 (pv 7)) (a_cons (q_var 8 (pv 8)) a_nil)))))
  (ss_cons (s_if (t_w (tw_and (t_c1 c_isN (q_var 10 (pv 10)) q_non) (tw_and1 (t_c1 c_notN (q_var 9 (pv 9)) q_non)))) (ss_one (s_ret q_bl)) ss_nil)
  (ss_one (s_if (t_w (tw_and (t_c1 c_notN (q_var 10 (pv 10)) q_non) (tw_and1 (t_not (t_w (tw_and (t_tru (b_isi (T := "tuple") fr (by simp) fr.tuple bv_tuple (q_var 9 (pv 9)))) (tw_and (t_tru (q_call D_law_wholes hr quiet0 (a_cons (q_fz (b_list fr (a_cons (q_var 9 (pv 9)) a_nil))) a_nil))) (tw_and1 (t_c1 (c_eq hu) (q_var 9 (pv 9)) (q_var 10 (pv 10))))))))))) (ss_one (s_ret q_bl)) ss_nil))))))
  (ss_one (s_ret (q_c1 (c_eq hu) (q_var 4 (pv 4)) (q_var 5 (pv 5))))))))))) pure
end
theorem BoltOk.sized {n m : Nat} {b : List Cell} (h : BoltOk n m b) (hn : n ≤ 64) (hm : m ≤ 64) : Sized n b := ⟨by have := h.len; omega, by omega, fun c hc => ⟨(h.ok c hc).st, (h.ok c hc).ws⟩⟩
theorem due_eq {n m : Nat} {b : List Cell} (h : BoltOk n m b) : neededL b = if m = 0 then [] else needL b n := by
  unfold neededL needL
  cases b with
  | nil =>
    have h0 : m = 0 := h.len.symm
    rw [if_pos h0]
    rfl
  | cons c b =>
    have := h.len
    rw [if_neg (by intro e; rw [e] at this; simp at this)]
    rw [show potsB (c :: b) = n from (h.ok c (by simp)).st]
theorem noLs_nats {xs : List Nat} : noLs (xs.map natI) = true := noLs_all fun d hd => by simp at hd; obtain ⟨x, _, rfl⟩ := hd; rfl
theorem need_eq {n m : Nat} {b : List Cell} (h : BoltOk n m b) : needL b n = neededL b := by
  rw [due_eq h]
  by_cases h0 : m = 0
  · rw [if_pos h0]
    have : b = [] := List.eq_nil_of_length_eq_zero (by rw [h.len, h0])
    subst this
    unfold needL
    rw [List.filter_eq_nil_iff]
    intro a _
    simp [isNeeded]
  · rw [if_neg h0]
theorem app12 {b : List Cell} : ((neededL b).map fun n : Nat => PyData.int n) ++ [PyData.int 12] = (membersL b).map fun n : Nat => PyData.int n := by simp [membersL]
theorem find_ex {n : Nat} {p : Nat → Bool} {i : Nat} (hi : i < n) (hp : p i = true) : ∃ m, (List.range n).find? p = some m := by
  cases e : (List.range n).find? p with
  | some m => exact ⟨m, rfl⟩
  | none =>
    have := List.find?_eq_none.mp e i (by simpa using hi)
    exact absurd hp this
theorem leastW_ex {b : List Cell} {o : Nat} (h : beneathB b o 12 = false) (ho : o ≠ 12) : ∃ m, leastW b o = some m := by
  have := clash_wax h ho
  cases e : (lackL b o).filter (fun i => (cellAt b i).wx) with
  | nil => exact absurd e this
  | cons i r =>
    have hi : i ∈ (lackL b o).filter (fun i => (cellAt b i).wx) := by rw [e]; simp
    obtain ⟨h1, h2⟩ := List.mem_filter.mp hi
    obtain ⟨h3, h4⟩ := mem_lackL.mp h1
    exact find_ex h3 (by unfold waxL; rw [h4]; simpa using h2)
theorem leastO_ex {b : List Cell} {o p : Nat} (h1 : beneathB b o p = false) (h2 : beneathB b p o = false) (hop : o ≠ p) (ho : o ≠ 12) (hp : p ≠ 12) : ∃ m, leastO b o p = some m := by
  have := clash_only h1 h2 hop ho hp
  cases e : (lackL b o).filter (fun i => !decide (i ∈ lackL b p)) with
  | nil => exact absurd e this
  | cons i r =>
    have hi : i ∈ (lackL b o).filter (fun i => !decide (i ∈ lackL b p)) := by rw [e]; simp
    obtain ⟨h1, h2⟩ := List.mem_filter.mp hi
    obtain ⟨h3, h4⟩ := mem_lackL.mp h1
    refine find_ex h3 ?_
    unfold onlyB
    rw [h4]
    cases h5 : lacksC (cellAt b i) p with
    | false => rfl
    | true =>
      have : i ∈ lackL b p := mem_lackL.mpr ⟨h3, h5⟩
      simp [this] at h2
theorem reason_kind (b : List Cell) (o p : Nat) : reasonD b o p = .none ∨ ∃ xs : List Nat, xs.length ≤ 2 ∧ reasonD b o p = .tuple (xs.map natI) := by
  unfold reasonD
  cases hc : clashB b o p with
  | false => exact .inl rfl
  | true =>
    right
    unfold clashB at hc
    simp at hc
    obtain ⟨hop, c1, c2⟩ := hc
    rw [if_neg Bool.noConfusion]
    by_cases h1 : o = 12
    · rw [if_pos h1]
      obtain ⟨m, hm⟩ := leastW_ex (b := b) (o := p) (by rw [← h1]; exact c2) (fun e => hop (by rw [h1, e]))
      exact ⟨[m], by simp, by rw [hm]; rfl⟩
    · rw [if_neg h1]
      by_cases h2 : p = 12
      · rw [if_pos h2]
        obtain ⟨m, hm⟩ := leastW_ex (b := b) (o := o) (by rw [← h2]; exact c1) h1
        exact ⟨[m], by simp, by rw [hm]; rfl⟩
      · rw [if_neg h2]
        obtain ⟨m, hm⟩ := leastO_ex c1 c2 hop h1 h2
        obtain ⟨k, hk⟩ := leastO_ex c2 c1 (Ne.symm hop) h2 h1
        exact ⟨[m, k], by simp, by rw [hm, hk]; rfl⟩
theorem enc_tN : Enc fun xs : List Nat => PyData.tuple (xs.map natI) := enc_tup enc_nat
theorem sh_tN {p : List Nat} : sh (.tuple (p.map natI)) = True := eq_true ((lay_tup (n := 0) (lay_map fun _ _ => lay_int)).sh (by decide))
theorem fEq_tN {p q : List Nat} {R : PyData → Prop} : fEq (.tuple (p.map fun n : Nat => .int n)) (.tuple (q.map fun n : Nat => .int n)) R = R (.bool (decide (p = q))) := fEq_enc enc_tN sh_tN sh_tN
theorem pure_law : d_law { nx := fun _ => False, rt := fun d => d = .bool true } (startLaw 11) := by
  simp [d_law, dl2, dl3, dl4, dl5, sp_law_sizes]
  intro n m hn hm k hk0 hk
  obtain ⟨k, rfl⟩ := Int.eq_ofNat_of_zero_le hk0
  refine ⟨.inl ⟨by decide, by decide⟩, n, m, 6 * k, by simp, by omega, by omega, by omega, fun b hb _ => ?_⟩
  have hs := hb.sized (by omega) (by omega)
  have hml := members_len hs
  simp
  refine ⟨b, n, rfl, hs, ?_⟩
  rw [need_eq hb]
  simp [sizeL]
  refine ⟨by simp [membersL] at hml; omega, ?_⟩
  simp only [app12]
  refine ⟨membersL b, rfl, by omega, fun ps hps hp => ?_⟩
  simp
  refine for_inv (fun items E => ∃ (r : List (Nat × Nat)) (a7 a8 a9 a10 : En), items = r.map dPr ∧ (∀ p ∈ r, p.1 ∈ membersL b ∧ p.2 ∈ membersL b) ∧ E = [.un, .box, .dat (.int n), .dat (.int m), .dat (dB b), .dat (dB b), .dat (dN (membersL b)), a7, a8, a9, a10]) ?_ ?_ _ _ ⟨ps, _, _, _, _, rfl, hp, rfl⟩
  · rintro E ⟨r, a7, a8, a9, a10, _, _, rfl⟩
    simp [dl6]
  · rintro x r E ⟨r', a7, a8, a9, a10, e, hr, rfl⟩
    cases r' with
    | nil => simp at e
    | cons p r' =>
      simp at e
      obtain ⟨rfl, rfl⟩ := e
      obtain ⟨h1, h2⟩ := hr p (by simp)
      refine ⟨_, rfl, fun N hN => ?_⟩
      simp
      refine ⟨b, n, p.1, p.2, rfl, hs, members_lt hs h1, members_lt hs h2, ?_⟩
      refine ⟨b, n, p.1, p.2, rfl, hs, hn, members_lt hs h1, members_lt hs h2, ?_⟩
      have q := fun a9 a10 => hN [.un, .box, .dat (.int n), .dat (.int m), .dat (dB b), .dat (dB b), .dat (dN (membersL b)), .dat (.int p.1), .dat (.int p.2), a9, a10] ⟨r', _, _, _, _, rfl, fun q hq => hr q (by simp [hq]), rfl⟩
      rcases reason_kind b p.1 p.2 with e | ⟨xs, hl, e⟩
      · rw [e]
        simp
        exact q _ _
      · rw [e]
        simp
        refine ⟨xs, rfl, by omega, ?_⟩
        simp [fEq_tN]
        exact q _ _

theorem facts {P : Program} {w : World} {K : PySem.W.Frag} {h : Heap} {mg : Str → Option Value} {f : Addr} (X : K.In h) (G : h.Ns mainGlobals mg) (hfa : mg ("law" : Str) = some (.ref f)) (c : He.SaysD fas fns K) :
    ∃ fd : FuncData, (∀ (s : Shared) (v : Value), BindsTo s fd ⟨[v], []⟩ [("_law_script", v)]) ∧ ∀ base : Heap, K.In base → base.Ns mainGlobals mg → FnOk P w K mg base CX0 7 f fd ["_law_script"] (spLaw K) := by
  have fr : Fr mg := ⟨He.free_ok X G (c.fact 26 (f := .free "len") rfl), He.free_ok X G (c.fact 27 (f := .free "list") rfl), He.free_ok X G (c.fact 28 (f := .free "tuple") rfl), He.free_ok X G (c.fact 29 (f := .free "range") rfl), He.free_ok X G (c.fact 30 (f := .free "isinstance") rfl), He.free_ok X G (c.fact 31 (f := .free "int") rfl), He.free_ok X G (c.fact 32 (f := .free "bool") rfl), He.free_ok X G (c.fact 33 (f := .free "str") rfl), He.free_ok X G (c.fact 34 (f := .free "dict") rfl), He.free_ok X G (c.fact 35 (f := .free "all") rfl), He.free_ok X G (c.fact 36 (f := .free "any") rfl), He.free_ok X G (c.fact 37 (f := .free "sorted") rfl), He.free_ok X G (c.fact 38 (f := .free "min") rfl), He.free_ok X G (c.fact 39 (f := .free "max") rfl), He.free_ok X G (c.fact 40 (f := .free "set") rfl), He.free_ok X G (c.fact 41 (f := .free "enumerate") rfl), He.free_ok X G (c.fact 42 (f := .free "reversed") rfl), He.free_ok X G (c.fact 43 (f := .free "zip") rfl)⟩
  have g_NOW := He.int_ok X G (c.fact 2 (f := .int "NOW" 12) rfl)
  obtain ⟨fd_gap, F_gap⟩ := c.def_ 0 (d := dfn ("gap", none) "gap" "gap" (topS 1)) rfl
  have D_gap : ∀ base, DefAt P w K mg base CX0 1 "gap" ["cell", "dye"] (spF K sp_gap) := fun base => ⟨_, ok_gap F_gap fr , (F_gap.bindsN fun _ _ _ _ _ _ us hl => match us, hl with | [_, _], _ => rfl), F_gap.kp, He.glo_ok X G (c.fact 0 (f := .glo "gap") rfl)⟩
  obtain ⟨fd_lacks, F_lacks⟩ := c.def_ 1 (d := dfn ("lacks", none) "lacks" "lacks" (topS 2)) rfl
  have D_lacks : ∀ base, DefAt P w K mg base CX0 2 "lacks" ["cell", "dye"] (spF K sp_lacks) := fun base => ⟨_, ok_lacks F_lacks fr (D_gap base), (F_lacks.bindsN fun _ _ _ _ _ _ us hl => match us, hl with | [_, _], _ => rfl), F_lacks.kp, He.glo_ok X G (c.fact 1 (f := .glo "lacks") rfl)⟩
  obtain ⟨fd_free_now, F_free_now⟩ := c.def_ 2 (d := dfn ("free_now", none) "free_now" "free_now" (topS 5)) rfl
  have D_free_now : ∀ base, DefAt P w K mg base CX0 3 "free_now" ["bolt", "dye"] (spF K sp_free_now) := fun base => ⟨_, ok_free_now F_free_now fr (D_lacks base), (F_free_now.bindsN fun _ _ _ _ _ _ us hl => match us, hl with | [_, _], _ => rfl), F_free_now.kp, He.glo_ok X G (c.fact 3 (f := .glo "free_now") rfl)⟩
  obtain ⟨fd_within, F_within⟩ := c.def_ 3 (d := dfn ("within", none) "within" "within" (topS 6)) rfl
  have D_within : ∀ base, DefAt P w K mg base CX0 3 "within" ["bolt", "one", "other"] (spF K sp_within) := fun base => ⟨_, ok_within F_within fr (D_lacks base), (F_within.bindsN fun _ _ _ _ _ _ us hl => match us, hl with | [_, _, _], _ => rfl), F_within.kp, He.glo_ok X G (c.fact 4 (f := .glo "within") rfl)⟩
  obtain ⟨fd_beneath, F_beneath⟩ := c.def_ 4 (d := dfn ("beneath", none) "beneath" "beneath" (topS 7)) rfl
  have D_beneath : ∀ base, DefAt P w K mg base CX0 4 "beneath" ["bolt", "one", "other"] (spF K sp_beneath) := fun base => ⟨_, ok_beneath F_beneath fr (D_free_now base) (D_within base) g_NOW, (F_beneath.bindsN fun _ _ _ _ _ _ us hl => match us, hl with | [_, _, _], _ => rfl), F_beneath.kp, He.glo_ok X G (c.fact 5 (f := .glo "beneath") rfl)⟩
  obtain ⟨fd_clash, F_clash⟩ := c.def_ 5 (d := dfn ("clash", none) "clash" "clash" (topS 8)) rfl
  have D_clash : ∀ base, DefAt P w K mg base CX0 5 "clash" ["bolt", "one", "other"] (spF K sp_clash) := fun base => ⟨_, ok_clash F_clash fr (D_beneath base), (F_clash.bindsN fun _ _ _ _ _ _ us hl => match us, hl with | [_, _, _], _ => rfl), F_clash.kp, He.glo_ok X G (c.fact 6 (f := .glo "clash") rfl)⟩
  obtain ⟨fd_least_only, F_least_only⟩ := c.def_ 6 (d := dfn ("least_only", none) "least_only" "least_only" (topS 9)) rfl
  have D_least_only : ∀ base, DefAt P w K mg base CX0 3 "least_only" ["bolt", "one", "other"] (spF K sp_least_only) := fun base => ⟨_, ok_least_only F_least_only fr (D_lacks base), (F_least_only.bindsN fun _ _ _ _ _ _ us hl => match us, hl with | [_, _, _], _ => rfl), F_least_only.kp, He.glo_ok X G (c.fact 7 (f := .glo "least_only") rfl)⟩
  obtain ⟨fd_least_waxed, F_least_waxed⟩ := c.def_ 7 (d := dfn ("least_waxed", none) "least_waxed" "least_waxed" (topS 10)) rfl
  have D_least_waxed : ∀ base, DefAt P w K mg base CX0 3 "least_waxed" ["bolt", "dye"] (spF K sp_least_waxed) := fun base => ⟨_, ok_least_waxed F_least_waxed fr (D_lacks base), (F_least_waxed.bindsN fun _ _ _ _ _ _ us hl => match us, hl with | [_, _], _ => rfl), F_least_waxed.kp, He.glo_ok X G (c.fact 8 (f := .glo "least_waxed") rfl)⟩
  obtain ⟨fd_apart, F_apart⟩ := c.def_ 8 (d := dfn ("apart", none) "apart" "apart" (topS 11)) rfl
  have D_apart : ∀ base, DefAt P w K mg base CX0 6 "apart" ["bolt", "one", "other"] (spF K sp_apart) := fun base => ⟨_, ok_apart F_apart fr (D_clash base) (D_least_waxed base) (D_least_only base) g_NOW, (F_apart.bindsN fun _ _ _ _ _ _ us hl => match us, hl with | [_, _, _], _ => rfl), F_apart.kp, He.glo_ok X G (c.fact 9 (f := .glo "apart") rfl)⟩
  obtain ⟨fd__law_whole, F__law_whole⟩ := c.def_ 9 (d := dfn ("_law_whole", none) "_law_whole" "_law_whole" (topS 13)) rfl
  have D_law_whole : ∀ base, DefAt P w K mg base CX0 1 "_law_whole" ["_law_found"] (spF K sp_law_whole) := fun base => ⟨_, ok_law_whole F__law_whole fr , (F__law_whole.bindsN fun _ _ _ _ _ _ us hl => match us, hl with | [_], _ => rfl), F__law_whole.kp, He.glo_ok X G (c.fact 10 (f := .glo "_law_whole") rfl)⟩
  obtain ⟨fd__law_wholes, F__law_wholes⟩ := c.def_ 10 (d := dfn ("_law_wholes", none) "_law_wholes" "_law_wholes" (topS 14)) rfl
  have D_law_wholes : ∀ base, DefAt P w K mg base CX0 2 "_law_wholes" ["_law_found"] (spF K sp_law_wholes) := fun base => ⟨_, ok_law_wholes F__law_wholes fr (D_law_whole base), (F__law_wholes.bindsN fun _ _ _ _ _ _ us hl => match us, hl with | [_], _ => rfl), F__law_wholes.kp, He.glo_ok X G (c.fact 11 (f := .glo "_law_wholes") rfl)⟩
  obtain ⟨fd__law_box, F__law_box⟩ := c.def_ 11 (d := dfn ("_law_box", none) "_law_box" "_law_box" (topS 15)) rfl
  have B_box : Binds K fd__law_box ["_law_script"] [] := (F__law_box.bindsN fun _ _ _ _ _ _ us hl => match us, hl with | [_], _ => rfl)
  obtain ⟨fd__law_mixed, F__law_mixed⟩ := c.def_ 12 (d := dfn ("_law_mixed", none) "_law_mixed" "_law_mixed" (topS 16)) rfl
  obtain ⟨fd__law_take, F__law_take⟩ := c.def_ 13 (d := dfn ("_law_take", none) "_law_take" "_law_take" (topS 17)) rfl
  have D_law_take : ∀ base, DefAt P w K mg base CX0 2 "_law_take" ["_law_box_here", "_law_many"] (spF K sp_take) := fun base => ⟨_, ok_take F__law_take fr (ok_mixed F__law_mixed) (F__law_mixed.bindsN fun _ _ _ _ _ _ us hl => match us, hl with | [_, _], _ => rfl) F__law_mixed.kp (He.glo_ok X G (c.fact 13 (f := .glo "_law_mixed") rfl)), (F__law_take.bindsN fun _ _ _ _ _ _ us hl => match us, hl with | [_, _], _ => rfl), F__law_take.kp, He.glo_ok X G (c.fact 14 (f := .glo "_law_take") rfl)⟩
  obtain ⟨fd__law_lacks, F__law_lacks⟩ := c.def_ 14 (d := dfn ("_law_lacks", none) "_law_lacks" "_law_lacks" (topS 18)) rfl
  have D_law_lacks : ∀ base, DefAt P w K mg base CX0 3 "_law_lacks" ["_law_box_here", "_law_pots", "_law_size"] (spF K sp_law_lacks) := fun base => ⟨_, ok_law_lacks F__law_lacks fr (D_law_take base), (F__law_lacks.bindsN fun _ _ _ _ _ _ us hl => match us, hl with | [_, _, _], _ => rfl), F__law_lacks.kp, He.glo_ok X G (c.fact 15 (f := .glo "_law_lacks") rfl)⟩
  obtain ⟨fd__law_cell, F__law_cell⟩ := c.def_ 15 (d := dfn ("_law_cell", none) "_law_cell" "_law_cell" (topS 19)) rfl
  have D_law_cell : ∀ base, DefAt P w K mg base CX0 3 "_law_cell" ["_law_box_here", "_law_row", "_law_loose", "_law_wet"] (spF K sp_law_cell) := fun base => ⟨_, ok_law_cell F__law_cell fr (D_law_take base), (F__law_cell.bindsN fun _ _ _ _ _ _ us hl => match us, hl with | [_, _, _, _], _ => rfl), F__law_cell.kp, He.glo_ok X G (c.fact 16 (f := .glo "_law_cell") rfl)⟩
  obtain ⟨fd__law_bolt, F__law_bolt⟩ := c.def_ 16 (d := dfn ("_law_bolt", none) "_law_bolt" "_law_bolt" (topS 20)) rfl
  have D_law_bolt : ∀ base, DefAt P w K mg base CX0 4 "_law_bolt" ["_law_box_here", "_law_pots", "_law_size", "_law_loose"] (spF K sp_law_bolt) := fun base => ⟨_, ok_law_bolt F__law_bolt fr (D_law_take base) (D_law_lacks base) (D_law_cell base), (F__law_bolt.bindsN fun _ _ _ _ _ _ us hl => match us, hl with | [_, _, _, _], _ => rfl), F__law_bolt.kp, He.glo_ok X G (c.fact 17 (f := .glo "_law_bolt") rfl)⟩
  obtain ⟨fd__law_sizes, F__law_sizes⟩ := c.def_ 17 (d := dfn ("_law_sizes", none) "_law_sizes" "_law_sizes" (topS 21)) rfl
  have D_law_sizes : ∀ base, DefAt P w K mg base CX0 3 "_law_sizes" ["_law_box_here"] (spF K sp_law_sizes) := fun base => ⟨_, ok_law_sizes F__law_sizes fr (D_law_take base), (F__law_sizes.bindsN fun _ _ _ _ _ _ us hl => match us, hl with | [_], _ => rfl), F__law_sizes.kp, He.glo_ok X G (c.fact 18 (f := .glo "_law_sizes") rfl)⟩
  obtain ⟨fd__law_lack, F__law_lack⟩ := c.def_ 18 (d := dfn ("_law_lack", none) "_law_lack" "_law_lack" (topS 22)) rfl
  have D_law_lack : ∀ base, DefAt P w K mg base CX0 1 "_law_lack" ["_law_rows", "_law_dye"] (spF K sp_law_lack) := fun base => ⟨_, ok_law_lack F__law_lack fr , (F__law_lack.bindsN fun _ _ _ _ _ _ us hl => match us, hl with | [_, _], _ => rfl), F__law_lack.kp, He.glo_ok X G (c.fact 19 (f := .glo "_law_lack") rfl)⟩
  obtain ⟨fd__law_need, F__law_need⟩ := c.def_ 19 (d := dfn ("_law_need", none) "_law_need" "_law_need" (topS 23)) rfl
  have D_law_need : ∀ base, DefAt P w K mg base CX0 2 "_law_need" ["_law_rows", "_law_pots"] (spF K sp_law_need) := fun base => ⟨_, ok_law_need F__law_need fr (D_law_lack base), (F__law_need.bindsN fun _ _ _ _ _ _ us hl => match us, hl with | [_, _], _ => rfl), F__law_need.kp, He.glo_ok X G (c.fact 20 (f := .glo "_law_need") rfl)⟩
  obtain ⟨fd__law_under, F__law_under⟩ := c.def_ 20 (d := dfn ("_law_under", none) "_law_under" "_law_under" (topS 24)) rfl
  have D_law_under : ∀ base, DefAt P w K mg base CX0 2 "_law_under" ["_law_rows", "_law_one", "_law_other"] (spF K sp_law_under) := fun base => ⟨_, ok_law_under F__law_under fr (D_law_lack base), (F__law_under.bindsN fun _ _ _ _ _ _ us hl => match us, hl with | [_, _, _], _ => rfl), F__law_under.kp, He.glo_ok X G (c.fact 21 (f := .glo "_law_under") rfl)⟩
  obtain ⟨fd__law_clash, F__law_clash⟩ := c.def_ 21 (d := dfn ("_law_clash", none) "_law_clash" "_law_clash" (topS 25)) rfl
  have D_law_clash : ∀ base, DefAt P w K mg base CX0 3 "_law_clash" ["_law_rows", "_law_one", "_law_other"] (spF K sp_law_clash) := fun base => ⟨_, ok_law_clash F__law_clash fr (D_law_under base), (F__law_clash.bindsN fun _ _ _ _ _ _ us hl => match us, hl with | [_, _, _], _ => rfl), F__law_clash.kp, He.glo_ok X G (c.fact 22 (f := .glo "_law_clash") rfl)⟩
  obtain ⟨fd__law_pairs, F__law_pairs⟩ := c.def_ 22 (d := dfn ("_law_pairs", none) "_law_pairs" "_law_pairs" (topS 26)) rfl
  have D_law_pairs : ∀ base, DefAt P w K mg base CX0 3 "_law_pairs" ["_law_box_here", "_law_some"] (spF K sp_law_pairs) := fun base => ⟨_, ok_law_pairs F__law_pairs fr (D_law_take base), (F__law_pairs.bindsN fun _ _ _ _ _ _ us hl => match us, hl with | [_, _], _ => rfl), F__law_pairs.kp, He.glo_ok X G (c.fact 23 (f := .glo "_law_pairs") rfl)⟩
  obtain ⟨fd__law_reason, F__law_reason⟩ := c.def_ 23 (d := dfn ("_law_reason", none) "_law_reason" "_law_reason" (topS 27)) rfl
  have D_law_reason : ∀ base, DefAt P w K mg base CX0 4 "_law_reason" ["_law_rows", "_law_one", "_law_other"] (spF K sp_law_reason) := fun base => ⟨_, ok_law_reason F__law_reason fr (D_law_clash base) (D_law_lack base), (F__law_reason.bindsN fun _ _ _ _ _ _ us hl => match us, hl with | [_, _, _], _ => rfl), F__law_reason.kp, He.glo_ok X G (c.fact 24 (f := .glo "_law_reason") rfl)⟩
  obtain ⟨fd_law, F_law⟩ := c.def_ 24 (d := dfn ("law", none) "law" "law" (topS 28)) rfl
  have e := hfa.symm.trans (He.glo_ok X G (c.fact 25 (f := .glo "law") rfl))
  cases e
  have b := FunD.bindsA (ps := ["_law_script"]) F_law fun _ _ _ _ _ _ us hl => match us, hl with | [_], _ => rfl
  exact ⟨fd_law, fun s v => b s [v] rfl, fun base _ _ => ok_law F_law fr (ok_box F__law_box fr) B_box F__law_box.kp (He.glo_ok X G (c.fact 12 (f := .glo "_law_box") rfl)) (D_law_sizes base) (D_law_bolt base) (D_law_take base) (D_law_need base) (D_law_pairs base) (D_apart base) (D_law_reason base) (D_law_wholes base) pure_law⟩
end Wx
open PySem PySem.W PySem.Calls PyProof.Rows
theorem PySem.Challenge.cw_waxcloth_k11_why_they_clash_holds : PySem.Challenge.rw_waxcloth_k11_why_they_clash.Holds := by
  w_on; o_law
  refine HandSHeadRun.head_any (r := OpenLaw.row PySem.Challenge.rw_waxcloth_k11_why_they_clash) (q := view (OpenLaw.row PySem.Challenge.rw_waxcloth_k11_why_they_clash).prog [28]) (H := Wx.hk) (ob := Wx.ob) (M := 12000) (loose := Wx.names) (d := HandSHeadRun.topDef (OpenLaw.row PySem.Challenge.rw_waxcloth_k11_why_they_clash).prog 28) (kwd := []) Wx.ob_eq
    (by kernel_rfl) (fun s => by kernel_rfl) Wx.run (by kernel_rfl) (by kernel_rfl) (by kernel_rfl) (by rfl) (by first | assumption | decide +kernel) (by decide +kernel) ⟨rfl, rfl, rfl, rfl, rfl, by decide +kernel⟩ ?hw ?hc
  case hw => w_witness2
  case hc =>
    refine L2.walk_ofE (l := PySem.Challenge.rw_waxcloth_k11_why_they_clash) (n := 63) (k := 7) (x := "_law_script") (CX := L2.CX0) rfl (by decide) (by kernel_rfl) ⟨rfl, by decide, by decide⟩ ?F (fun _ _ _ _ z => z)
    intro w mg fa h Y G hmg0
    obtain ⟨K, KX, c⟩ := Y
    have hmg : mg ("law" : PySem.Str) = some (.ref fa) := by
      have e : (HandSHeadRun.topDef (OpenLaw.row PySem.Challenge.rw_waxcloth_k11_why_they_clash).prog 28).name = ("law" : PySem.Str) := by kernel_rfl
      rw [← e]
      exact hmg0
    obtain ⟨fd, hb, hF⟩ := Wx.facts (P := (PySem.Challenge.rw_waxcloth_k11_why_they_clash).prog) (w := w) KX G hmg c
    exact ⟨K, fd, Wx.spLaw K, KX, hb, fun H a ns hl _ hS => ⟨a, ns, rfl, hS, hl, fun _ => rfl⟩, hF⟩
