import PyProof.Rows.All
import Wide.All
import OpenK.AllK
import Wide.FinOn
import KE.KStateDown
import HandS.ForMost
import HandS.More
import HandS.Exc
import HandS.TryOnly
import HandS.TryMany
import HandS.ExcOwn
import HandS.ExcInit
import HandS.WordsExc
import HandS.Defaults
import HandS.IsInst
import HandS.CallSlots
import HandS.Flow
import HandS.Strs
import HandS.Conv
import HandS.SetKeys
import HandS.Head0
import HandS.Head1
import HandS.Head2
import HandS.HeadEnd
import HandS.HeadHook1
import HandS.HeadHook2
import HandS.HeadHook3
import HandS.HeadHook4
import HandS.HeadWalk
import HandS.TupAny
import HandS.Deep
import HandS.SetFor
import HandS.FltList
import HandS.Dict
import HandS.Iter
import HandS.WordsDict
import HandS.Small
import KE.KDictList
import HandS.Zip
import HandS.ExcField
import KE.KExcIs
import PySem.Challenge.RW_waxcloth_k06_refusals_apart
set_option Elab.async false
set_option linter.all false
set_option maxRecDepth 100000
set_option maxHeartbeats 0
namespace Wx
open PySem PySem.Spec PyProof.Rows L2
def topS (i : Nat) : Stmt := PySem.Challenge.pw_waxcloth_k06_refusals_apart.main.body.getD i (.Pass ⟨0, 0, 0, 0⟩)
def dfn (a : Str × Option Str) (x q : Str) (s : Stmt) : He.DefD := ⟨a, x, q, defArgs s, defBody s, defScope s, [], []⟩
def fns0 : List He.DefD := [
  dfn ("Barred", some "__init__") "__init__" "Barred.__init__" (inClass (topS 18) 0),
  dfn ("_law_box", none) "_law_box" "_law_box" (topS 20),
  dfn ("_law_mixed", none) "_law_mixed" "_law_mixed" (topS 21),
  dfn ("_law_take", none) "_law_take" "_law_take" (topS 22),
  dfn ("_law_kinds", none) "_law_kinds" "_law_kinds" (topS 23),
  dfn ("law", none) "law" "law" (topS 24)]
def fns : List He.DefD := fns0
def fas0 : List He.Fa := [
  .glo "WaxError",
  .exc "WaxError",
  .glo "NoName",
  .exc "NoName",
  .glo "Taken",
  .exc "Taken",
  .glo "BadSize",
  .exc "BadSize",
  .glo "NoCloth",
  .exc "NoCloth",
  .glo "NoCell",
  .exc "NoCell",
  .glo "BadWish",
  .exc "BadWish",
  .glo "Twice",
  .exc "Twice",
  .glo "NoDye",
  .exc "NoDye",
  .glo "Spent",
  .exc "Spent",
  .glo "StillFresh",
  .exc "StillFresh",
  .glo "TooDeep",
  .exc "TooDeep"]
def fas1 : List He.Fa := [
  .glo "NothingLeft",
  .exc "NothingLeft",
  .glo "NoMark",
  .exc "NoMark",
  .glo "NoDeed",
  .exc "NoDeed",
  .glo "NoHouse",
  .exc "NoHouse",
  .glo "NoChart",
  .exc "NoChart",
  .glo "Barred",
  .keep "Barred",
  .glo "_law_box",
  .glo "_law_mixed",
  .glo "_law_take",
  .glo "_law_kinds",
  .glo "law",
  .free "len",
  .free "list",
  .free "tuple",
  .free "range",
  .free "isinstance",
  .free "int",
  .free "bool"]
def fas2 : List He.Fa := [
  .free "str",
  .free "dict",
  .free "all",
  .free "any",
  .free "sorted",
  .free "min",
  .free "max",
  .free "set",
  .free "enumerate",
  .free "reversed",
  .free "zip",
  .free "ValueError"]
def fas : List He.Fa := fas0 ++ fas1 ++ fas2
abbrev R : PySem.W.OpenRow := PySem.W.OpenLaw.row PySem.Challenge.rw_waxcloth_k06_refusals_apart
def objB (C : Addr) : Option Obj → Bool
  | some ⟨.type T, _, .cls cd, sl⟩ => decide (T = "type") && (cd.hasDict && (!cd.hasDel && (match cd.mro, sl.toList with
    | .ref C' :: bm, [_, _, _, _, some (.builtin n), _] => decide (C' = C) && (decide (n = "ValueError.__new__") && PySem.HandSPX.refsVE bm)
    | _, _ => false)))
  | _ => false
def oexB (K : PySem.W.Frag) (C : Addr) : Bool := objB C (K.lookup C) && (decide (PySem.W.findIn K (.ref C) "__setattr__" = some (some (.builtin "object.__setattr__"))) && (decide (PySem.W.subIn K (.ref C) (.type "BaseException") = some true) && (decide (PySem.W.typeIn K (.ref C) = some (.type "type")) && PySem.W.keepIn K (.ref C))))
def barB (K : PySem.W.Frag) (x : Str) : Bool := oexB K (He.ga K x) && (xfB K (He.ga K x) && (decide (PySem.W.findIn K (.ref (He.ga K x)) "bars" = some none) && (decide (PySem.W.findIn K (.ref (He.ga K x)) "__init__" = some (some (.ref (He.ma K (He.ga K x) "__init__")))) && decide (PySem.W.typeIn K (.ref (He.ma K (He.ga K x) "__init__")) = some (.type "function")))))
def errL : List Str := ["NoName", "Taken", "BadSize", "NoCloth", "NoCell", "BadWish", "Twice", "NoDye", "Spent", "StillFresh", "TooDeep", "NothingLeft", "NoMark", "NoDeed", "NoHouse", "NoChart", "Barred"]
def errB (K : PySem.W.Frag) (D : Addr) : Bool := (PySem.W.clsIn K D).isSome && (decide (PySem.W.findIn K (.ref D) "__getattribute__" = some (some (.builtin "BaseException.__getattribute__"))) && (decide (PySem.W.findIn K (.ref D) "__getattr__" = some none) && (decide (PySem.W.subIn K (.ref D) (.type "BaseException") = some true) && (decide (PySem.W.findIn K (.ref D) "__class__" = some (some (.builtin "object.__class__"))) && decide (PySem.W.mroIn K D (.type "object") = some true)))))
def isaB (K : PySem.W.Frag) : Bool := (decide (PySem.W.specialIn K (.builtin "object.__class__") "__get__" = some (some (.builtin "getset_descriptor.__get__"))) && decide (PySem.W.takesIn K (.builtin "object.__class__") = some true)) && errL.all fun C => errB K (He.ga K C) && (decide (PySem.W.kitOne K (.ref (He.ga K C)) (.type "ValueError") = some true) && (decide (PySem.W.kitOne K (.ref (He.ga K C)) (.ref (He.ga K "WaxError")) = some true) && errL.all fun y => decide (PySem.W.kitOne K (.ref (He.ga K C)) (.ref (He.ga K y)) = some (decide (C = y)))))
def exB0 (K : PySem.W.Frag) : List Bool := [barB K "Barred",
  isaB K]
def tbs : List He.Tab := []
def exA (K : PySem.W.Frag) : Bool := (exB0 K).all id
/-! a cheaper look at the heap: what is seen stands as bits -/
def hxGo : List PySem.Addr → Nat → List PySem.Addr → List PySem.Addr → Nat × List PySem.Addr × List PySem.Addr
  | [], m, acc, nw => (m, acc, nw)
  | a :: l, m, acc, nw => match Nat.beq (Nat.land 1 (Nat.shiftRight m a)) 0 with
    | true => hxGo l (Nat.lor m (Nat.shiftLeft 1 a)) (a :: acc) (a :: nw)
    | false => hxGo l m acc nw
def hxRef (g : PySem.Addr → Option PySem.Obj) : List PySem.Addr → List PySem.Addr
  | [] => []
  | a :: l => (match g a with
    | some o => He.refsD o
    | none => []) ++ hxRef g l
def hxUp (g : PySem.Addr → Option PySem.Obj) : Nat → Nat × List PySem.Addr × List PySem.Addr → List PySem.Addr
  | 0, s => s.2.1.reverse
  | n + 1, s => hxUp g n (hxGo (hxRef g s.2.2) s.1 s.2.1 [])
def hxAs (g : PySem.Addr → Option PySem.Obj) (n : Nat) : List PySem.Addr := hxUp g n (hxGo [PySem.mainGlobals] 0 [] [])
def hxObs (n : Nat) (fa : List He.Fa) (fn : List He.DefD) (ts : List He.Tab) (ex : PySem.W.Frag → Bool) (g : PySem.Addr → Option PySem.Obj) : He.AlX := (He.obsT fa fn ts (He.frT g (hxAs g n)), ex (He.frT g (hxAs g n)))
theorem hxSays {n : Nat} {fa : List He.Fa} {fn : List He.DefD} {ts : List He.Tab} {ex : PySem.W.Frag → Bool} {w : PySem.World} {h : PySem.Heap} (e : hxObs n fa fn ts ex h.get? = He.valX fn ts w) : He.SaysX fa fn ts [] ex w h (He.frT h.get? (hxAs h.get? n)) :=
  ⟨congrArg (fun z : He.AlX => z.1) e, congrArg (fun z : He.AlX => z.2) e, fun _ hp => (nomatch hp), fun _ hp => (nomatch hp), fun _ hp => (nomatch hp)⟩
def hookXM (n : Nat) (fa : List He.Fa) (fn : List He.DefD) (ts : List He.Tab) (ex : PySem.W.Frag → Bool) : PySem.W.Hook where
  α := He.AlX
  obs := fun s => hxObs n fa fn ts ex s.heap.get?
  val := fun w => He.valX fn ts w
  says := fun w h => ∃ K : PySem.W.Frag, K.In h ∧ He.SaysX fa fn ts [] ex w h K
  of := fun _ _ e => ⟨_, He.frT_in, hxSays e⟩
  keeps := fun _ _ _ ⟨K, hK, c⟩ k => ⟨K, PySem.W.Frag.In.keeps hK k, ⟨c.t, c.more, c.hd, c.out, fun p hp => k _ _ (c.empty p hp)⟩⟩
theorem hxObs_eq {n : Nat} {fa : List He.Fa} {fn : List He.DefD} {ts : List He.Tab} {ex : PySem.W.Frag → Bool} {g : PySem.Addr → Option PySem.Obj} {s : PySem.Shared} (h : ∀ a, g a = s.heap.get? a) : hxObs n fa fn ts ex g = (hookXM n fa fn ts ex).obs s := by
  have e : g = s.heap.get? := funext h
  rw [e]
  rfl
abbrev hk : PySem.W.Hook := hookXM 4 fas fns tbs exA
def ob (s : PySem.W.SharedT) : He.AlX := hxObs 4 fas fns tbs exA (HandSHeadRun.getT s)
theorem ob_eq (s : PySem.W.SharedT) : ob s = hk.obs s.abs := hxObs_eq (HandSHeadRun.getT_eq s)
def names0 : List PySem.Str := [
  "WaxError",
  "NoName",
  "Taken",
  "BadSize",
  "NoCloth",
  "NoCell",
  "BadWish",
  "Twice",
  "NoDye",
  "Spent",
  "StillFresh",
  "TooDeep",
  "NothingLeft",
  "NoMark",
  "NoDeed",
  "NoHouse",
  "NoChart",
  "Barred",
  "_law_box",
  "_law_mixed",
  "_law_take",
  "_law_kinds"]
def names : List PySem.Str := names0
theorem map6 {S A B C D E F : Type _} {o : Option S} {f : S → A} {g : S → B} {h : S → ((C × D) × E) × F} {a : A} {b : B} {c : ((C × D) × E) × F} (h1 : o.map (fun s => (f s, g s, (h s).2)) = some (a, b, c.2)) (h2 : o.map (fun s => ((h s).1.1.1, (h s).1.1.2, (h s).1.2)) = some (c.1.1.1, c.1.1.2, c.1.2)) : o.map (fun s => (f s, g s, h s)) = some (a, b, c) := by
  cases o with
  | none => cases h1
  | some s =>
    injection h1 with e1
    injection h2 with e2
    injection e1 with e11 e12
    injection e12 with e12 e13
    injection e2 with e21 e22
    injection e22 with e22 e23
    show some (f s, g s, h s) = _
    rw [e11, e12, show h s = c from Prod.ext (Prod.ext (Prod.ext e21 e22) e23) e13]
open HandSHeadRun PySem.W PySem.Calls PyProof.Rows in
theorem runFA (w : World) (os : OsState) : (endF (stepQ (denQ tabQ) R.prog (w.withFollow "special-get-raises" false)) 12000 R.prog (w.withFollow "special-get-raises" false) os).map (fun s => (looksF R.prog (boot_heap (w.withFollow "special-get-raises" false).params) s.abs, seenQ (PySem.W.view R.prog [24]) names (importedModules R.prog.main.body) (fun s => xlAt (PySem.W.view R.prog [24]) [] s && recOk R.toRowW.records s) s.abs, (ob s).2)) = some (true, openGood (PySem.W.view R.prog [24]) names, (hk.val (w.withFollow "special-get-raises" false)).2) := by kernel_rfl
open HandSHeadRun PySem.W PySem.Calls PyProof.Rows in
theorem runFB (w : World) (os : OsState) : (endF (stepQ (denQ tabQ) R.prog (w.withFollow "special-get-raises" false)) 12000 R.prog (w.withFollow "special-get-raises" false) os).map (fun s => ((ob s).1.1.1, (ob s).1.1.2, (ob s).1.2)) = some ((hk.val (w.withFollow "special-get-raises" false)).1.1.1, (hk.val (w.withFollow "special-get-raises" false)).1.1.2, (hk.val (w.withFollow "special-get-raises" false)).1.2) := by kernel_rfl
theorem runF (w : World) : HandSHeadRun.RunEq R (PySem.W.view R.prog [24]) hk ob 12000 names (w.withFollow "special-get-raises" false) := fun os => map6 (runFA w os) (runFB w os)
open HandSHeadRun PySem.W PySem.Calls PyProof.Rows in
theorem runTA (w : World) (os : OsState) : (endF (stepQ (denQ tabQ) R.prog (w.withFollow "special-get-raises" true)) 12000 R.prog (w.withFollow "special-get-raises" true) os).map (fun s => (looksF R.prog (boot_heap (w.withFollow "special-get-raises" true).params) s.abs, seenQ (PySem.W.view R.prog [24]) names (importedModules R.prog.main.body) (fun s => xlAt (PySem.W.view R.prog [24]) [] s && recOk R.toRowW.records s) s.abs, (ob s).2)) = some (true, openGood (PySem.W.view R.prog [24]) names, (hk.val (w.withFollow "special-get-raises" true)).2) := by kernel_rfl
open HandSHeadRun PySem.W PySem.Calls PyProof.Rows in
theorem runTB (w : World) (os : OsState) : (endF (stepQ (denQ tabQ) R.prog (w.withFollow "special-get-raises" true)) 12000 R.prog (w.withFollow "special-get-raises" true) os).map (fun s => ((ob s).1.1.1, (ob s).1.1.2, (ob s).1.2)) = some ((hk.val (w.withFollow "special-get-raises" true)).1.1.1, (hk.val (w.withFollow "special-get-raises" true)).1.1.2, (hk.val (w.withFollow "special-get-raises" true)).1.2) := by kernel_rfl
theorem runT (w : World) : HandSHeadRun.RunEq R (PySem.W.view R.prog [24]) hk ob 12000 names (w.withFollow "special-get-raises" true) := fun os => map6 (runTA w os) (runTB w os)
theorem run (w : World) : HandSHeadRun.RunEq R (PySem.W.view R.prog [24]) hk ob 12000 names w := PySem.W.byRow2 "special-get-raises" (P := fun w => HandSHeadRun.RunEq R (PySem.W.view R.prog [24]) hk ob 12000 names w) runF runT w
end Wx
namespace Wx
open PySem PySem.Spec PyProof.Rows L2

/-! ### things that change: cells. A cell is named by its address -/
/-- a cell's content: a list, a dict (lk: locked, while it is walked), an instance of the program's own class C -/
inductive Ob where
  | lst (ds : List PyData)
  | dct (lk : Option (Obj × List (Key × V))) (kvs : List (Key × PyData))
  | ins (C : Str) (fs : List (Str × PyData))
abbrev Mu := Addr → Option Ob
def Mu.set (M : Mu) (a : Addr) (o : Ob) : Mu := fun b => if b = a then some o else M b
def Mu.del (M : Mu) (a : Addr) : Mu := fun b => if b = a then none else M b
def Mu.no : Mu := fun _ => none
def Mu.le (M N : Mu) : Prop := ∀ a o, M a = some o → N a = some o
@[simp] theorem Mu.set_same {M : Mu} {a : Addr} {o : Ob} : M.set a o a = some o := if_pos rfl
theorem Mu.set_ne {M : Mu} {a b : Addr} {o : Ob} (h : b ≠ a) : M.set a o b = M b := if_neg h
@[simp] theorem Mu.del_same {M : Mu} {a : Addr} : M.del a a = none := if_pos rfl
theorem Mu.del_ne {M : Mu} {a b : Addr} (h : b ≠ a) : M.del a b = M b := if_neg h
@[simp] theorem Mu.no_at {a : Addr} : Mu.no a = none := rfl
theorem Mu.le_refl {M : Mu} : M.le M := fun _ _ h => h
theorem Mu.no_le {M : Mu} : Mu.no.le M := fun _ _ h => nomatch h
def kD : Key → PyData
  | .inl i => .int i
  | .inr x => .str x
/-- a cell as a value -/
def cellD (a : Addr) : PyData := .dict [(.bool true, .int (a : Nat))]
/-- a frozen dict, a frozen instance -/
def dctD (kvs : List (Key × PyData)) : PyData := .dict (kvs.map fun p => (kD p.1, p.2))
def insD (C : Str) (fs : List (Str × PyData)) : PyData := .dict ((.none, .str C) :: fs.map fun p => (.str p.1, p.2))
theorem cellD_inj {a b : Addr} (h : cellD a = cellD b) : a = b := by
  unfold cellD at h
  injection h with h
  injection h with h _
  injection h with _ h
  injection h with h
  exact Int.ofNat.inj h
theorem kD_inj {a b : Key} (h : kD a = kD b) : a = b := by
  cases a <;> cases b <;> first | (injection h with h; rw [h]) | cases h
theorem dctD_inj : ∀ {a b : List (Key × PyData)}, dctD a = dctD b → a = b := by
  intro a b h
  unfold dctD at h
  injection h with h
  revert b
  induction a with
  | nil => intro b h; cases b with
    | nil => rfl
    | cons => cases h
  | cons x a ih => intro b h; cases b with
    | nil => cases h
    | cons y b =>
      obtain ⟨k, v⟩ := x
      obtain ⟨k', v'⟩ := y
      injection h with h1 h2
      injection h1 with h3 h4
      have h3 : kD k = kD k' := h3
      have h4 : v = v' := h4
      rw [ih h2, kD_inj h3, h4]
theorem insD_inj {C C' : Str} : ∀ {a b : List (Str × PyData)}, insD C a = insD C' b → C = C' ∧ a = b := by
  intro a b h
  unfold insD at h
  injection h with h
  injection h with h0 h
  injection h0 with _ h0
  injection h0 with h0
  refine ⟨h0, ?_⟩
  clear h0
  revert b
  induction a with
  | nil => intro b h; cases b with
    | nil => rfl
    | cons => cases h
  | cons x a ih => intro b h; cases b with
    | nil => cases h
    | cons y b =>
      obtain ⟨k, v⟩ := x
      obtain ⟨k', v'⟩ := y
      injection h with h1 h2
      injection h1 with h3 h4
      injection h3 with h3
      rw [ih h2]
      have h4 : v = v' := h4
      have h3 : k = k' := h3
      rw [h4, h3]
theorem cell_dct {a : Addr} {kvs : List (Key × PyData)} : cellD a ≠ dctD kvs := by
  intro h
  unfold cellD dctD at h
  injection h with h
  cases kvs with
  | nil => cases h
  | cons x r =>
    injection h with h _
    injection h with h _
    obtain ⟨k, v⟩ := x
    cases k <;> cases h
theorem cell_ins {a : Addr} {C : Str} {fs : List (Str × PyData)} : cellD a ≠ insD C fs := by
  intro h
  unfold cellD insD at h
  injection h with h
  injection h with h _
  injection h with h _
  cases h
theorem cell_exn {a : Addr} {x : PyData} {r : List (PyData × PyData)} : cellD a ≠ .dict ((.bool false, x) :: r) := by
  intro h
  unfold cellD at h
  injection h with h
  injection h with h _
  injection h with h _
  injection h with h
  cases h
theorem dct_exn {kvs : List (Key × PyData)} {x : PyData} {r : List (PyData × PyData)} : dctD kvs ≠ .dict ((.bool false, x) :: r) := by
  intro h
  unfold dctD at h
  injection h with h
  cases kvs with
  | nil => cases h
  | cons y r =>
    injection h with h _
    injection h with h _
    obtain ⟨k, v⟩ := y
    cases k <;> cases h
theorem ins_exn {C : Str} {fs : List (Str × PyData)} {x : PyData} {r : List (PyData × PyData)} : insD C fs ≠ .dict ((.bool false, x) :: r) := by
  intro h
  unfold insD at h
  injection h with h
  injection h with h _
  injection h with h _
  cases h
theorem dct_ins {kvs : List (Key × PyData)} {C : Str} {fs : List (Str × PyData)} : dctD kvs ≠ insD C fs := by
  intro h
  unfold dctD insD at h
  injection h with h
  cases kvs with
  | nil => cases h
  | cons x r =>
    injection h with h _
    injection h with h _
    obtain ⟨k, v⟩ := x
    cases k <;> cases h

/-! ### data in a heap that only grows -/
mutual
inductive Rp (K : PySem.W.Frag) (G : Hp) : V → PyData → Prop
  | non : Rp K G .non .none
  | bl (b : Bool) : Rp K G (.bl b) (.bool b)
  | int (i : Int) : Rp K G (.int i) (.int i)
  | str (x : Str) : Rp K G (.str x) (.str x)
  | lst {a : Addr} {xs : List V} {ds : List PyData} : G a = some (.lst xs) → RpAll K G xs ds → Rp K G (.ref a) (.list ds)
  | tup {a : Addr} {xs : List V} {ds : List PyData} : G a = some (.tup xs) → RpAll K G xs ds → Rp K G (.ref a) (.tuple ds)
  | dct {a : Addr} {o : Obj} {ks : List (Key × V)} {kvs : List (Key × PyData)} : G a = some (.frz o (.dK ks)) → RpK K G ks kvs → Rp K G (.ref a) (.dict (kvs.map fun p => (kD p.1, p.2)))
  | ins {a dx : Addr} {C : Str} {vs : List (Str × V)} {fs : List (Str × PyData)} : G a = some (.ins (He.ga K C) dx vs) → RpF K G vs fs → Rp K G (.ref a) (.dict ((.none, .str C) :: fs.map fun p => (.str p.1, p.2)))
  | cel (a : Addr) : Rp K G (.ref a) (.dict [(.bool true, .int (a : Nat))])
  | exn {a : Addr} {C : Str} : G a = some (exo a (He.ga K C) none) → Rp K G (.ref a) (.dict [(.bool false, .str C)])
  | exb {a dx : Addr} {C : Str} {v : V} {d : PyData} : G a = some (exo a (He.ga K C) (some dx)) → G dx = some (exd dx [("bars", v)]) → Rp K G v d → Rp K G (.ref a) (.dict [(.bool false, .str C), (.bool true, d)])
inductive RpAll (K : PySem.W.Frag) (G : Hp) : List V → List PyData → Prop
  | nil : RpAll K G [] []
  | cons {v : V} {vs : List V} {d : PyData} {ds : List PyData} : Rp K G v d → RpAll K G vs ds → RpAll K G (v :: vs) (d :: ds)
inductive RpK (K : PySem.W.Frag) (G : Hp) : List (Key × V) → List (Key × PyData) → Prop
  | nil : RpK K G [] []
  | cons {k : Key} {v : V} {vs : List (Key × V)} {d : PyData} {ds : List (Key × PyData)} : Rp K G v d → RpK K G vs ds → RpK K G ((k, v) :: vs) ((k, d) :: ds)
inductive RpF (K : PySem.W.Frag) (G : Hp) : List (Str × V) → List (Str × PyData) → Prop
  | nil : RpF K G [] []
  | cons {k : Str} {v : V} {vs : List (Str × V)} {d : PyData} {ds : List (Str × PyData)} : Rp K G v d → RpF K G vs ds → RpF K G ((k, v) :: vs) ((k, d) :: ds)
end
mutual
theorem rp_mono {K : PySem.W.Frag} {G G' : Hp} (e : Same G G') : ∀ {v : V} {d : PyData}, Rp K G v d → Rp K G' v d
  | _, _, .non => .non
  | _, _, .bl b => .bl b
  | _, _, .int i => .int i
  | _, _, .str x => .str x
  | _, _, .lst hs ha => .lst (e _ _ hs) (rps_mono e ha)
  | _, _, .tup hs ha => .tup (e _ _ hs) (rps_mono e ha)
  | _, _, .dct hs ha => .dct (e _ _ hs) (rpk_mono e ha)
  | _, _, .ins hs ha => .ins (e _ _ hs) (rpf_mono e ha)
  | _, _, .cel a => .cel a
  | _, _, .exn h => .exn (e _ _ h)
  | _, _, .exb h1 h2 h3 => .exb (e _ _ h1) (e _ _ h2) (rp_mono e h3)
theorem rps_mono {K : PySem.W.Frag} {G G' : Hp} (e : Same G G') : ∀ {vs : List V} {ds : List PyData}, RpAll K G vs ds → RpAll K G' vs ds
  | _, _, .nil => .nil
  | _, _, .cons h1 h2 => .cons (rp_mono e h1) (rps_mono e h2)
theorem rpk_mono {K : PySem.W.Frag} {G G' : Hp} (e : Same G G') : ∀ {vs : List (Key × V)} {ds : List (Key × PyData)}, RpK K G vs ds → RpK K G' vs ds
  | _, _, .nil => .nil
  | _, _, .cons h1 h2 => .cons (rp_mono e h1) (rpk_mono e h2)
theorem rpf_mono {K : PySem.W.Frag} {G G' : Hp} (e : Same G G') : ∀ {vs : List (Str × V)} {ds : List (Str × PyData)}, RpF K G vs ds → RpF K G' vs ds
  | _, _, .nil => .nil
  | _, _, .cons h1 h2 => .cons (rp_mono e h1) (rpf_mono e h2)
end
mutual
theorem rp_dp {K : PySem.W.Frag} {G H : Hp} (e : Same G H) : ∀ {d : PyData} {v : V}, d.canLay0 = true → Rp K G v d → Dp K H v d
  | _, _, _, .non => .non
  | _, _, _, .bl b => .bl b
  | _, _, _, .int i => .int i
  | _, _, _, .str x => .str x
  | _, _, c, .lst hs ha => .lst (SqL.of (e _ _ hs)) (rps_dp e (by rw [PyData.canLay0] at c; exact c) ha)
  | _, _, c, .tup hs ha => .tup (SqT.of (e _ _ hs)) (rps_dp e (by rw [PyData.canLay0] at c; exact c) ha)
  | _, _, c, .dct _ _ => by rw [PyData.canLay0] at c; cases c
  | _, _, c, .ins _ _ => by rw [PyData.canLay0] at c; cases c
  | _, _, c, .cel _ => by rw [PyData.canLay0] at c; cases c
  | _, _, c, .exn _ => by rw [PyData.canLay0] at c; cases c
  | _, _, c, .exb _ _ _ => by rw [PyData.canLay0] at c; cases c
theorem rps_dp {K : PySem.W.Frag} {G H : Hp} (e : Same G H) : ∀ {ds : List PyData} {vs : List V}, PyData.canLayAll0 ds = true → RpAll K G vs ds → DpAll K H vs ds
  | _, _, _, .nil => .nil
  | _, _, c, .cons h1 h2 => .cons (rp_dp e (by rw [PyData.canLayAll0, Bool.and_eq_true] at c; exact c.1) h1) (rps_dp e (by rw [PyData.canLayAll0, Bool.and_eq_true] at c; exact c.2) h2)
end
theorem Rp.up {K : PySem.W.Frag} {G G' : Hp} {d : PyData} {v : V} (h : Rp K G v d) (e : Same G G') : Rp K G' v d := rp_mono e h
theorem RpAll.up {K : PySem.W.Frag} {G G' : Hp} {d : List PyData} {v : List V} (h : RpAll K G v d) (e : Same G G') : RpAll K G' v d := rps_mono e h
theorem RpK.up {K : PySem.W.Frag} {G G' : Hp} {d : List (Key × PyData)} {v : List (Key × V)} (h : RpK K G v d) (e : Same G G') : RpK K G' v d := rpk_mono e h
theorem RpF.up {K : PySem.W.Frag} {G G' : Hp} {d : List (Str × PyData)} {v : List (Str × V)} (h : RpF K G v d) (e : Same G G') : RpF K G' v d := rpf_mono e h
theorem Rp.dp {K : PySem.W.Frag} {G H : Hp} {d : PyData} {v : V} (h : Rp K G v d) (e : Same G H) (c : SeqAt.shaped d = true) : Dp K H v d := rp_dp e (SeqAt.canLay_of_shaped c) h
theorem RpAll.dp {K : PySem.W.Frag} {G H : Hp} {d : List PyData} {v : List V} (h : RpAll K G v d) (e : Same G H) (c : SeqAt.shaped (.list d) = true) : DpAll K H v d := rps_dp e (by have := SeqAt.canLay_of_shaped c; rw [PyData.canLay0] at this; exact this) h
/-- what a cell, a frozen dict, a frozen instance stands for -/
theorem Rp.cell_inv {K : PySem.W.Frag} {G : Hp} {v : V} {a : Addr} (h : Rp K G v (cellD a)) : v = .ref a := by
  generalize e : cellD a = d at h
  cases h with
  | cel b => rw [cellD_inj (a := a) (b := b) e]
  | dct _ _ => exact (cell_dct e).elim
  | ins _ _ => exact (cell_ins e).elim
  | exn _ => exact (cell_exn e).elim
  | exb _ _ _ => exact (cell_exn e).elim
  | _ => cases e
theorem Rp.dct_inv {K : PySem.W.Frag} {G : Hp} {v : V} {kvs : List (Key × PyData)} (h : Rp K G v (dctD kvs)) : ∃ a o ks, v = .ref a ∧ G a = some (.frz o (.dK ks)) ∧ RpK K G ks kvs := by
  generalize e : dctD kvs = d at h
  cases h with
  | cel b => exact (cell_dct (a := b) e.symm).elim
  | dct h1 h2 => rw [dctD_inj e]; exact ⟨_, _, _, rfl, h1, h2⟩
  | ins _ _ => exact (dct_ins e).elim
  | exn _ => exact (dct_exn e).elim
  | exb _ _ _ => exact (dct_exn e).elim
  | _ => cases e
theorem Rp.ins_inv {K : PySem.W.Frag} {G : Hp} {v : V} {C : Str} {fs : List (Str × PyData)} (h : Rp K G v (insD C fs)) : ∃ a dx vs, v = .ref a ∧ G a = some (.ins (He.ga K C) dx vs) ∧ RpF K G vs fs := by
  generalize e : insD C fs = d at h
  cases h with
  | cel b => exact (cell_ins (a := b) e.symm).elim
  | dct h1 h2 => exact (dct_ins e.symm).elim
  | ins h1 h2 =>
    obtain ⟨e1, e2⟩ := insD_inj e
    subst e1 e2
    exact ⟨_, _, _, rfl, h1, h2⟩
  | exn _ => exact (ins_exn e).elim
  | exb _ _ _ => exact (ins_exn e).elim
  | _ => cases e
theorem Rp.of_dct {K : PySem.W.Frag} {G : Hp} {a : Addr} {o : Obj} {ks : List (Key × V)} {kvs : List (Key × PyData)} (h : G a = some (.frz o (.dK ks))) (r : RpK K G ks kvs) : Rp K G (.ref a) (dctD kvs) := .dct h r
theorem Rp.of_ins {K : PySem.W.Frag} {G : Hp} {a dx : Addr} {C : Str} {vs : List (Str × V)} {fs : List (Str × PyData)} (h : G a = some (.ins (He.ga K C) dx vs)) (r : RpF K G vs fs) : Rp K G (.ref a) (insD C fs) := .ins h r
theorem Rp.of_cel {K : PySem.W.Frag} {G : Hp} {a : Addr} : Rp K G (.ref a) (cellD a) := .cel a
section
variable {K : PySem.W.Frag}
theorem RpAll.length {G : Hp} : ∀ {xs : List V} {ds : List PyData}, RpAll K G xs ds → xs.length = ds.length
  | [], [], _ => rfl
  | _ :: _, _ :: _, .cons _ t => by rw [List.length_cons, List.length_cons, RpAll.length t]
theorem RpAll.at {G : Hp} : ∀ {xs : List V} {ds : List PyData} {i : Nat} {d : PyData}, RpAll K G xs ds → ds[i]? = some d → ∃ v, xs[i]? = some v ∧ Rp K G v d
  | _, _, _, _, .nil, e => by simp at e
  | _, _, 0, _, .cons r _, e => by simp at e; subst e; exact ⟨_, rfl, r⟩
  | _, _, i + 1, d, .cons _ t, e => by
    obtain ⟨u, h1, h2⟩ := RpAll.at (i := i) (d := d) t (by simpa using e)
    exact ⟨u, by simpa using h1, h2⟩
theorem RpAll.of_at {G : Hp} : ∀ {xs : List V} {ds : List PyData} {i : Nat} {v : V}, RpAll K G xs ds → xs[i]? = some v → ∃ d, ds[i]? = some d ∧ Rp K G v d
  | _, _, _, _, .nil, e => by simp at e
  | _, _, 0, _, .cons r _, e => by simp at e; subst e; exact ⟨_, rfl, r⟩
  | _, _, i + 1, d, .cons _ t, e => by
    obtain ⟨u, h1, h2⟩ := RpAll.of_at (i := i) (v := d) t (by simpa using e)
    exact ⟨u, by simpa using h1, h2⟩
theorem RpAll.app {G : Hp} : ∀ {xs ys : List V} {ds es : List PyData}, RpAll K G xs ds → RpAll K G ys es → RpAll K G (xs ++ ys) (ds ++ es)
  | _, _, _, _, .nil, s => s
  | _, _, _, _, .cons r t, s => .cons r (RpAll.app t s)
theorem RpAll.tk {G : Hp} : ∀ {xs : List V} {ds : List PyData} (n : Nat), RpAll K G xs ds → RpAll K G (xs.take n) (ds.take n)
  | _, _, 0, _ => .nil
  | _, _, _ + 1, .nil => .nil
  | _, _, n + 1, .cons r t => .cons r (RpAll.tk n t)
theorem RpAll.dr {G : Hp} : ∀ {xs : List V} {ds : List PyData} (n : Nat), RpAll K G xs ds → RpAll K G (xs.drop n) (ds.drop n)
  | _, _, 0, r => r
  | _, _, _ + 1, .nil => .nil
  | _, _, n + 1, .cons _ t => RpAll.dr n t
theorem RpAll.st {G : Hp} {x : V} {d : PyData} (r : Rp K G x d) : ∀ {xs : List V} {ds : List PyData} (i : Nat), RpAll K G xs ds → RpAll K G (xs.set i x) (ds.set i d)
  | _, _, _, .nil => .nil
  | _, _, 0, .cons _ t => .cons r t
  | _, _, i + 1, .cons q t => .cons q (RpAll.st r i t)
theorem RpAll.dl {G : Hp} {xs : List V} {ds : List PyData} (h : RpAll K G xs ds) : RpAll K G xs.dropLast ds.dropLast := by
  rw [List.dropLast_eq_take, List.dropLast_eq_take, h.length]
  exact h.tk _
theorem RpAll.ints {G : Hp} : ∀ {xs : List V} {ns : List Int}, RpAll K G xs (ns.map PyData.int) → xs = ns.map V.int
  | [], [], _ => rfl
  | _ :: _, _ :: _, .cons r t => by cases r; rw [List.map_cons, RpAll.ints t]
theorem rps_ints {G : Hp} : ∀ (ns : List Int), RpAll K G (ns.map V.int) (ns.map PyData.int)
  | [] => .nil
  | n :: r => .cons (.int n) (rps_ints r)
theorem RpAll.bls {G : Hp} : ∀ {xs : List V} {ns : List Bool}, RpAll K G xs (ns.map PyData.bool) → xs = ns.map V.bl
  | [], [], _ => rfl
  | _ :: _, _ :: _, .cons r t => by cases r; rw [List.map_cons, RpAll.bls t]
theorem RpAll.strs {G : Hp} : ∀ {xs : List V} {ns : List Str}, RpAll K G xs (ns.map PyData.str) → xs = ns.map V.str
  | [], [], _ => rfl
  | _ :: _, _ :: _, .cons r t => by cases r; rw [List.map_cons, RpAll.strs t]
theorem rps_strs {G : Hp} : ∀ (ns : List Str), RpAll K G (ns.map V.str) (ns.map PyData.str)
  | [] => .nil
  | n :: r => .cons (.str n) (rps_strs r)

theorem RpK.val {G : Hp} : ∀ {ks : List (Key × V)} {kvs : List (Key × PyData)} {k : Key} {d : PyData}, RpK K G ks kvs → (kvs.find? fun p => decide (p.1 = k)).map (·.2) = some d → ∃ v, valV ks k = some v ∧ Rp K G v d
  | _, _, _, _, .nil, e => by simp at e
  | _, _, k, d, .cons (k := k') r t, e => by
    by_cases h : k' = k
    · simp [h] at e
      subst e
      exact ⟨_, valV_pos (p := (k', _)) h, r⟩
    · simp [h] at e
      obtain ⟨v, h1, h2⟩ := RpK.val (k := k) (d := d) t (by simpa using e)
      exact ⟨v, (valV_neg (p := (k', _)) h).trans h1, h2⟩
theorem RpK.keys {G : Hp} : ∀ {ks : List (Key × V)} {kvs : List (Key × PyData)}, RpK K G ks kvs → ks.map (·.1) = kvs.map (·.1)
  | _, _, .nil => rfl
  | _, _, .cons _ t => by rw [List.map_cons, List.map_cons, RpK.keys t]
theorem RpK.length {G : Hp} : ∀ {ks : List (Key × V)} {kvs : List (Key × PyData)}, RpK K G ks kvs → ks.length = kvs.length
  | _, _, .nil => rfl
  | _, _, .cons _ t => by rw [List.length_cons, List.length_cons, RpK.length t]
theorem RpF.lookup {G : Hp} : ∀ {vs : List (Str × V)} {fs : List (Str × PyData)} {f : Str} {d : PyData}, RpF K G vs fs → fs.lookup f = some d → ∃ v, vs.lookup f = some v ∧ Rp K G v d
  | _, _, _, _, .nil, e => by simp at e
  | _, _, f, d, .cons (k := k) (vs := vs) (ds := ds) r t, e => by
    rw [List.lookup_cons] at e ⊢
    cases h : f == k with
    | true => rw [h] at e; cases e; exact ⟨_, rfl, r⟩
    | false => rw [h] at e; exact RpF.lookup t e
theorem RpF.keys {G : Hp} : ∀ {ks : List (Str × V)} {kvs : List (Str × PyData)}, RpF K G ks kvs → ks.map (·.1) = kvs.map (·.1)
  | _, _, .nil => rfl
  | _, _, .cons _ t => by rw [List.map_cons, List.map_cons, RpF.keys t]
theorem RpF.length {G : Hp} : ∀ {ks : List (Str × V)} {kvs : List (Str × PyData)}, RpF K G ks kvs → ks.length = kvs.length
  | _, _, .nil => rfl
  | _, _, .cons _ t => by rw [List.length_cons, List.length_cons, RpF.length t]
end
/-- the law's box at b, its first item the list at a -/
structure Bx where
  b : Addr
  a : Addr
def Off (bx : Option Bx) (x : Addr) : Prop := ∀ z, bx = some z → z.b ≠ x
theorem off_none {x : Addr} : Off none x := fun _ h => nomatch h
/-- what is frozen, what may change -/
structure Gm where
  G : Hp
  M : Mu
instance : CoeFun Gm fun _ => Addr → Option HO := ⟨Gm.G⟩
instance : Coe Gm Hp := ⟨Gm.G⟩
abbrev Gm.up (G : Gm) (p : Addr) (o : HO) : Gm := ⟨upd G.G p o, G.M⟩
/-! ### how the heaps grow: G what is frozen, H all -/
structure Gro (G H G' H' : Hp) : Prop where
  g : Same G G'
  s : Same H H'
  n : ∀ a o, G' a = some o → G a = some o ∨ H a = none
theorem Gro.refl {G H : Hp} : Gro G H G H := ⟨Same.refl G, Same.refl H, fun _ _ e => .inl e⟩
theorem Gro.trans {G H G1 H1 G2 H2 : Hp} (e : Gro G H G1 H1) (f : Gro G1 H1 G2 H2) : Gro G H G2 H2 := ⟨e.g.trans f.g, e.s.trans f.s, fun a o q => by
  rcases f.n a o q with z | z
  · exact e.n a o z
  · exact .inr (e.s.free z)⟩
/-- a new object, frozen at once -/
theorem Gro.new {G H : Hp} {p : Addr} {o : HO} (s : Same G H) (hp : H p = none) : Gro G H (upd G p o) (upd H p o) := by
  have gp : G p = none := s.free hp
  refine ⟨fun a u e => ?_, fun a u e => ?_, fun a u e => ?_⟩
  · rw [upd_ne (ne_of_none e gp)]; exact e
  · rw [upd_ne (ne_of_none e hp)]; exact e
  · by_cases h : a = p
    · rw [h]; exact .inr hp
    · rw [upd_ne h] at e; exact .inl e
theorem same_new {G H : Hp} {p : Addr} {o : HO} (s : Same G H) : Same (upd G p o) (upd H p o) := fun a u e => by
  by_cases h : a = p
  · rw [h, upd_same] at e ⊢; exact e
  · rw [upd_ne h] at e ⊢; exact s a u e
/-- a new object, not frozen -/
theorem Gro.own {G H : Hp} {p : Addr} {o : HO} (hp : H p = none) : Gro G H G (upd H p o) :=
  ⟨Same.refl G, fun a u e => by rw [upd_ne (ne_of_none e hp)]; exact e, fun _ _ e => .inl e⟩
theorem same_own {G H : Hp} {p : Addr} {o : HO} (s : Same G H) (hp : H p = none) : Same G (upd H p o) := fun a u e => by
  rw [upd_ne (ne_of_none (s a u e) hp)]; exact s a u e
theorem Gro.of_same {G H H' : Hp} (s : Same H H') : Gro G H G H' := ⟨Same.refl G, s, fun _ _ q => .inl q⟩
theorem same_freeze {G H : Hp} {p : Addr} {o : HO} (s : Same G H) (hp : H p = some o) : Same (upd G p o) H := fun a u e => by
  by_cases h : a = p
  · rw [h, upd_same] at e; rw [h, hp]; exact e
  · rw [upd_ne h] at e; exact s a u e
/-- .. with the box, that turns, and the cells, that change -/
structure Ext (bx : Option Bx) (G : Gm) (H : Hp) (G' : Gm) (H' : Hp) : Prop where
  g : Same G.G G'.G
  h : ∀ a o, Off bx a → G.M a = none → H a = some o → H' a = some o
  n : ∀ a o, G' a = some o → G a = some o ∨ H a = none ∨ ∃ ob, G.M a = some ob
  al : ∀ a o, H a = some o → ∃ o', H' a = some o'
  m : ∀ a ob, G'.M a = some ob → (∃ ob', G.M a = some ob') ∨ H a = none
theorem Ext.refl {bx : Option Bx} {G : Gm} {H : Hp} : Ext bx G H G H := ⟨Same.refl G.G, fun _ _ _ _ e => e, fun _ _ e => .inl e, fun _ o e => ⟨o, e⟩, fun _ ob e => .inl ⟨ob, e⟩⟩
theorem Ext.none_of {bx : Option Bx} {G G' : Gm} {H H' : Hp} (e : Ext bx G H G' H') {a : Addr} (h : H' a = none) : H a = none := by
  cases q : H a with
  | none => rfl
  | some o =>
    obtain ⟨o', z⟩ := e.al a o q
    rw [h] at z
    cases z
theorem Ext.m_none {bx : Option Bx} {G G' : Gm} {H H' : Hp} (e : Ext bx G H G' H') {a : Addr} {o : HO} (h : G.M a = none) (ha : H a = some o) : G'.M a = none := by
  cases q : G'.M a with
  | none => rfl
  | some ob =>
    rcases e.m a ob q with ⟨_, z⟩ | z
    · rw [h] at z; cases z
    · rw [ha] at z; cases z
theorem Ext.g_none {bx : Option Bx} {G G' : Gm} {H H' : Hp} (e : Ext bx G H G' H') {a : Addr} {o : HO} (h : G.M a = none) (gp : G a = none) (ha : H a = some o) : G' a = none := by
  cases q : G' a with
  | none => rfl
  | some u =>
    rcases e.n a u q with z | z | ⟨_, z⟩
    · rw [gp] at z; cases z
    · rw [ha] at z; cases z
    · rw [h] at z; cases z
theorem Ext.trans {bx : Option Bx} {G G1 G2 : Gm} {H H1 H2 : Hp} (e : Ext bx G H G1 H1) (f : Ext bx G1 H1 G2 H2) : Ext bx G H G2 H2 :=
  ⟨e.g.trans f.g, fun a o n m q => f.h a o n (e.m_none m q) (e.h a o n m q), fun a o q => by
    rcases f.n a o q with z | z | ⟨ob, z⟩
    · exact e.n a o z
    · exact .inr (.inl (e.none_of z))
    · rcases e.m a ob z with y | y
      · exact .inr (.inr y)
      · exact .inr (.inl y), fun a o q => by
    obtain ⟨o', z⟩ := e.al a o q
    exact f.al a o' z, fun a ob q => by
    rcases f.m a ob q with ⟨ob', z⟩ | z
    · exact e.m a ob' z
    · exact .inr (e.none_of z)⟩
theorem Gro.any {bx : Option Bx} {G : Gm} {H G' H' : Hp} (e : Gro G.G H G' H') : Ext bx G H ⟨G', G.M⟩ H' := ⟨e.g, fun a o _ _ q => e.s a o q, fun a o q => by
  rcases e.n a o q with z | z
  · exact .inl z
  · exact .inr (.inl z), fun a o q => ⟨o, e.s a o q⟩, fun a ob q => .inl ⟨ob, q⟩⟩
/-- an object that was not frozen is -/
theorem Ext.freeze {bx : Option Bx} {G G' : Gm} {H H' : Hp} {p : Addr} {o : HO} (e : Ext bx G H G' H') (hp : H p = none) (gp : G' p = none) : Ext bx G H (G'.up p o) H' := by
  refine ⟨fun a u q => ?_, e.h, fun a u q => ?_, e.al, e.m⟩
  · have z := e.g a u q
    show upd G'.G p o a = some u
    rw [upd_ne (ne_of_none z gp)]; exact z
  · by_cases h : a = p
    · rw [h]; exact .inr (.inl hp)
    · have q : upd G'.G p o a = some u := q
      rw [upd_ne h] at q; exact e.n a u q

/-- the box: the script's numbers (frozen), the place, what is left of a number, the turn, the seed -/
def BoxOk (K : PySem.W.Frag) (z : Bx) (G H : Hp) : Prop :=
  ∃ (ns : List Int) (p q r s : Int), H z.b = some (.lst [.ref z.a, .int p, .int q, .int r, .int s]) ∧ Rp K G (.ref z.a) (.list (ns.map .int)) ∧ 0 ≤ p
/-- a cell's content -/
def ObOk (K : PySem.W.Frag) (G H : Hp) (a : Addr) : Ob → Prop
  | .lst ds => ∃ xs, H a = some (.lst xs) ∧ RpAll K G xs ds
  | .dct none kvs => ∃ ks, H a = some (.dK ks) ∧ RpK K G ks kvs
  | .dct (some t) kvs => H a = some (.frz t.1 (.dK t.2)) ∧ RpK K G t.2 kvs
  | .ins C fs => ∃ dx vs, H a = some (.ins (He.ga K C) dx vs) ∧ RpF K G vs fs
theorem ObOk.up {K : PySem.W.Frag} {G H G' H' : Hp} {a : Addr} {ob : Ob} (h : ObOk K G H a ob) (g : Same G G') (e : H' a = H a) : ObOk K G' H' a ob := by
  match ob, h with
  | .lst ds, ⟨xs, h1, h2⟩ => exact ⟨xs, e.trans h1, h2.up g⟩
  | .dct none kvs, ⟨ks, h1, h2⟩ => exact ⟨ks, e.trans h1, h2.up g⟩
  | .dct (some t) kvs, ⟨h1, h2⟩ => exact ⟨e.trans h1, h2.up g⟩
  | .ins C fs, ⟨dx, vs, h1, h2⟩ => exact ⟨dx, vs, e.trans h1, h2.up g⟩
theorem ObOk.there {K : PySem.W.Frag} {G H : Hp} {a : Addr} {ob : Ob} (h : ObOk K G H a ob) : ∃ o, H a = some o := by
  match ob, h with
  | .lst ds, ⟨xs, h1, h2⟩ => exact ⟨_, h1⟩
  | .dct none kvs, ⟨ks, h1, h2⟩ => exact ⟨_, h1⟩
  | .dct (some t) kvs, ⟨h1, h2⟩ => exact ⟨_, h1⟩
  | .ins C fs, ⟨dx, vs, h1, h2⟩ => exact ⟨_, h1⟩
structure Wo (K : PySem.W.Frag) (bx : Option Bx) (G : Gm) (H : Hp) : Prop where
  s : Same G.G H
  b : ∀ z, bx = some z → G z.b = none ∧ BoxOk K z G H
  c : ∀ a ob, G.M a = some ob → ObOk K G H a ob ∧ G a = none ∧ Off bx a
section
variable {K : PySem.W.Frag}
theorem BoxOk.up {z : Bx} {G H G' H' : Hp} (h : BoxOk K z G H) (g : Same G G') (hb : H' z.b = H z.b) : BoxOk K z G' H' := by
  obtain ⟨ns, p, q, r, s, h1, h2, h3⟩ := h
  exact ⟨ns, p, q, r, s, hb.trans h1, h2.up g, h3⟩
theorem BoxOk.there {z : Bx} {G H : Hp} (h : BoxOk K z G H) : ∃ o, H z.b = some o := let ⟨_, _, _, _, _, y, _⟩ := h; ⟨_, y⟩
theorem Wo.off {bx : Option Bx} {G : Gm} {H : Hp} (w : Wo K bx G H) {p : Addr} (hp : H p = none) : Off bx p := fun z hz q => by
  obtain ⟨o, y⟩ := (w.b z hz).2.there
  rw [q, hp] at y; cases y
theorem Wo.m_none {bx : Option Bx} {G : Gm} {H : Hp} (w : Wo K bx G H) {p : Addr} (hp : H p = none) : G.M p = none := by
  cases q : G.M p with
  | none => rfl
  | some ob =>
    obtain ⟨o, y⟩ := (w.c p ob q).1.there
    rw [hp] at y; cases y
theorem Wo.pure {bx : Option Bx} {G : Gm} {H G' H' : Hp} (w : Wo K bx G H) (e : Gro G.G H G' H') (s : Same G' H') : Wo K bx ⟨G', G.M⟩ H' := by
  have gn : ∀ a o, G a = none → H a = some o → G' a = none := fun a o h1 h2 => by
    cases q : G' a with
    | none => rfl
    | some u =>
      rcases e.n a u q with y | y
      · have y : G a = some u := y
        rw [h1] at y; cases y
      · rw [h2] at y; cases y
  refine ⟨s, fun z hz => ?_, fun a ob h => ?_⟩
  · obtain ⟨h1, h2⟩ := w.b z hz
    obtain ⟨o, ho⟩ := h2.there
    exact ⟨gn _ o h1 ho, h2.up e.g ((e.s z.b o ho).trans ho.symm)⟩
  · obtain ⟨h1, h2, h3⟩ := w.c a ob h
    obtain ⟨o, ho⟩ := h1.there
    exact ⟨h1.up e.g ((e.s a o ho).trans ho.symm), gn _ o h2 ho, h3⟩
/-- cells are forgotten -/
theorem Wo.less {bx : Option Bx} {G : Gm} {H : Hp} (w : Wo K bx G H) {M : Mu} (h : M.le G.M) : Wo K bx ⟨G.G, M⟩ H := ⟨w.s, w.b, fun a ob e => w.c a ob (h a ob e)⟩
theorem Ext.less {bx : Option Bx} {G G' : Gm} {H H' : Hp} (e : Ext bx G H G' H') {M : Mu} (h : M.le G'.M) : Ext bx G H ⟨G'.G, M⟩ H' := ⟨e.g, e.h, e.n, e.al, fun a ob q => e.m a ob (h a ob q)⟩
/-- what was done with some cells alone -/
theorem Ext.frame {bx : Option Bx} {G : Gm} {H : Hp} {G' : Gm} {H' : Hp} {M : Mu} (e : Ext bx ⟨G.G, M⟩ H G' H') (h : M.le G.M) : Ext bx G H ⟨G'.G, fun a => match M a with | some _ => G'.M a | none => match G.M a with | some ob => some ob | none => G'.M a⟩ H' := by
  refine ⟨e.g, fun a o n m q => e.h a o n (by
    show M a = none
    cases q : M a with
    | none => rfl
    | some ob => rw [h a ob q] at m; cases m) q, fun a o q => ?_, e.al, fun a ob q => ?_⟩
  · rcases e.n a o q with z | z | ⟨ob, z⟩
    · exact .inl z
    · exact .inr (.inl z)
    · exact .inr (.inr ⟨ob, h a ob z⟩)
  · cases z : G.M a with
    | some ob' => exact .inl ⟨ob', rfl⟩
    | none =>
      refine .inr ?_
      have mz : M a = none := by
        cases q : M a with
        | none => rfl
        | some ob => rw [h a ob q] at z; cases z
      have q : (match M a with | some _ => G'.M a | none => match G.M a with | some ob => some ob | none => G'.M a) = some ob := q
      rw [mz, z] at q
      rcases e.m a ob q with ⟨_, y⟩ | y
      · have y : M a = some _ := y
        rw [mz] at y; cases y
      · exact y
end

/-! ### the names' values as data -/
inductive En where
  /-- nothing is known -/
  | un
  /-- frozen data -/
  | dat (d : PyData)
  /-- a list of one's own, that may change; its items frozen data -/
  | own (ds : List PyData)
  /-- the law's box -/
  | box
  /-- just this value -/
  | raw (v : V)
def EnOk (K : PySem.W.Frag) (bx : Option Bx) (H0 : Hp) (G : Gm) (H : Hp) (σ : L2.St) (i : Nat) : En → Prop
  | .un => True
  | .dat d => ∃ v, σ[i]? = some (some v) ∧ Rp K G v d
  | .own ds => ∃ p xs, σ[i]? = some (some (.ref p)) ∧ H0 p = none ∧ (G p = none ∧ G.M p = none) ∧ Off bx p ∧ H p = some (.lst xs) ∧ RpAll K G xs ds
  | .box => ∃ z, bx = some z ∧ σ[i]? = some (some (.ref z.b))
  | .raw v => σ[i]? = some (some v)
structure SR (K : PySem.W.Frag) (bx : Option Bx) (G0 : Gm) (H0 : Hp) (G : Gm) (H : Hp) (σ : L2.St) (E : List En) : Prop where
  len : σ.length = E.length
  x : Ext bx G0 H0 G H
  w : Wo K bx G H
  e : ∀ i en, E[i]? = some en → EnOk K bx H0 G H σ i en
  d : ∀ (i j : Nat) (ds es : List PyData) (p : Addr), i ≠ j → E[i]? = some (En.own ds) → E[j]? = some (En.own es) → σ[i]? = some (some (V.ref p)) → σ[j]? = some (some (V.ref p)) → False
section
variable {K : PySem.W.Frag} {bx : Option Bx} {G0 G G' : Gm} {H0 H H' : Hp} {σ : L2.St} {E : List En}
theorem EnOk.ext {i : Nat} {en : En} (h : EnOk K bx H0 G H σ i en) (e : Ext bx G H G' H') : EnOk K bx H0 G' H' σ i en := by
  cases en with
  | un => trivial
  | dat d => obtain ⟨v, h1, h2⟩ := h; exact ⟨v, h1, h2.up e.g⟩
  | own ds =>
    obtain ⟨p, xs, h1, h2, ⟨h3, h3'⟩, h4, h5, h6⟩ := h
    exact ⟨p, xs, h1, h2, ⟨e.g_none h3' h3 h5, e.m_none h3' h5⟩, h4, e.h p _ h4 h3' h5, h6.up e.g⟩
  | box => exact h
  | raw v => exact h
theorem SR.ext (s : SR K bx G0 H0 G H σ E) (e : Ext bx G H G' H') (w : Wo K bx G' H') : SR K bx G0 H0 G' H' σ E :=
  ⟨s.len, s.x.trans e, w, fun i en q => (s.e i en q).ext e, s.d⟩
theorem SR.pure {G1 : Hp} (s : SR K bx G0 H0 G H σ E) (e : Gro G.G H G1 H') (m : Same G1 H') : SR K bx G0 H0 ⟨G1, G.M⟩ H' σ E := s.ext e.any (s.w.pure e m)
theorem SR.dat (s : SR K bx G0 H0 G H σ E) {i : Nat} {d : PyData} (h : E[i]? = some (.dat d)) : ∃ v, σ[i]? = some (some v) ∧ Rp K G v d := s.e i _ h
theorem SR.less (s : SR K bx G0 H0 G H σ E) {M : Mu} (h : M.le G.M) : SR K bx G0 H0 ⟨G.G, M⟩ H σ E := by
  refine ⟨s.len, s.x.less h, s.w.less h, fun i en q => ?_, s.d⟩
  have z := s.e i en q
  cases en with
  | own ds =>
    obtain ⟨p, xs, h1, h2, ⟨h3, h3'⟩, h4, h5, h6⟩ := z
    refine ⟨p, xs, h1, h2, ⟨h3, ?_⟩, h4, h5, h6⟩
    show M p = none
    cases y : M p with
    | none => rfl
    | some ob => rw [h p ob y] at h3'; cases h3'
  | un => trivial
  | dat d => exact z
  | box => exact z
  | raw v => exact z
/-- a name stored -/
theorem SR.set (s : SR K bx G0 H0 G H σ E) {i : Nat} {v : V} {en : En} (h : i < E.length → EnOk K bx H0 G H (σ.set i (some v)) i en) (hd : ∀ ds, en ≠ .own ds) : SR K bx G0 H0 G H (σ.set i (some v)) (E.set i en) := by
  refine ⟨by simpa using s.len, s.x, s.w, fun j e q => ?_, fun j k ds es p hjk q1 q2 q3 q4 => ?_⟩
  · by_cases hj : i = j
    · subst hj
      have hl : i < E.length := by
        have := (List.getElem?_eq_some_iff.mp q).1
        simpa using this
      rw [List.getElem?_set_self hl] at q
      cases q
      exact h hl
    · rw [List.getElem?_set_ne hj] at q
      have z := s.e j e q
      have eσ : (σ.set i (some v))[j]? = σ[j]? := List.getElem?_set_ne hj
      cases e with
      | un => trivial
      | dat d => obtain ⟨u, z1, z2⟩ := z; exact ⟨u, eσ.trans z1, z2⟩
      | own ds => obtain ⟨p, xs, z1, z2⟩ := z; exact ⟨p, xs, eσ.trans z1, z2⟩
      | box => obtain ⟨b, z1, z2⟩ := z; exact ⟨b, z1, eσ.trans z2⟩
      | raw u => exact eσ.trans z
  · have ne : ∀ k ds, (E.set i en)[k]? = some (En.own ds) → k ≠ i := fun k ds q z => by
      subst z
      have hl : k < E.length := by
        have := (List.getElem?_eq_some_iff.mp q).1
        simpa using this
      rw [List.getElem?_set_self hl] at q
      exact hd ds (Option.some.inj q)
    have n1 := ne _ _ q1
    have n2 := ne _ _ q2
    rw [List.getElem?_set_ne (Ne.symm n1)] at q1 q3
    rw [List.getElem?_set_ne (Ne.symm n2)] at q2 q4
    exact s.d j k ds es p hjk q1 q2 q3 q4
theorem SR.setDat (s : SR K bx G0 H0 G H σ E) {i : Nat} {v : V} {d : PyData} (h : Rp K G v d) : SR K bx G0 H0 G H (σ.set i (some v)) (E.set i (.dat d)) :=
  s.set (fun hl => ⟨v, List.getElem?_set_self (by rw [s.len]; exact hl), h⟩) fun _ => nofun
theorem SR.setRaw (s : SR K bx G0 H0 G H σ E) {i : Nat} {v : V} : SR K bx G0 H0 G H (σ.set i (some v)) (E.set i (.raw v)) :=
  s.set (fun hl => List.getElem?_set_self (by rw [s.len]; exact hl)) fun _ => nofun
theorem SR.setUn (s : SR K bx G0 H0 G H σ E) {i : Nat} {v : V} : SR K bx G0 H0 G H (σ.set i (some v)) (E.set i .un) :=
  s.set (fun hl => trivial) fun _ => nofun
/-- a name forgotten -/
theorem SR.wipe (s : SR K bx G0 H0 G H σ E) {i : Nat} : SR K bx G0 H0 G H (σ.set i none) (E.set i .un) := by
  refine ⟨by simpa using s.len, s.x, s.w, fun j e q => ?_, fun j k ds es p hjk q1 q2 q3 q4 => ?_⟩
  · by_cases hj : i = j
    · subst hj
      have hl : i < E.length := by
        have := (List.getElem?_eq_some_iff.mp q).1
        simpa using this
      rw [List.getElem?_set_self hl] at q
      cases q
      trivial
    · rw [List.getElem?_set_ne hj] at q
      have z := s.e j e q
      have eσ : (σ.set i none)[j]? = σ[j]? := List.getElem?_set_ne hj
      cases e with
      | un => trivial
      | dat d => obtain ⟨u, z1, z2⟩ := z; exact ⟨u, eσ.trans z1, z2⟩
      | own ds => obtain ⟨p, xs, z1, z2⟩ := z; exact ⟨p, xs, eσ.trans z1, z2⟩
      | box => obtain ⟨b, z1, z2⟩ := z; exact ⟨b, z1, eσ.trans z2⟩
      | raw u => exact eσ.trans z
  · have ne : ∀ k ds, (E.set i En.un)[k]? = some (En.own ds) → k ≠ i := fun k ds q z => by
      subst z
      have hl : k < E.length := by
        have := (List.getElem?_eq_some_iff.mp q).1
        simpa using this
      rw [List.getElem?_set_self hl] at q
      cases q
    have n1 := ne _ _ q1
    have n2 := ne _ _ q2
    rw [List.getElem?_set_ne (Ne.symm n1)] at q1 q3
    rw [List.getElem?_set_ne (Ne.symm n2)] at q2 q4
    exact s.d j k ds es p hjk q1 q2 q3 q4
/-- a name's entry forgotten, its value not -/
theorem SR.blur (s : SR K bx G0 H0 G H σ E) {i : Nat} : SR K bx G0 H0 G H σ (E.set i .un) := by
  refine ⟨by simpa using s.len, s.x, s.w, fun j e q => ?_, fun j k ds es p hjk q1 q2 q3 q4 => ?_⟩
  · by_cases hj : i = j
    · subst hj
      have hl : i < E.length := by
        have := (List.getElem?_eq_some_iff.mp q).1
        simpa using this
      rw [List.getElem?_set_self hl] at q
      cases q
      trivial
    · rw [List.getElem?_set_ne hj] at q
      exact s.e j e q
  · have ne : ∀ k ds, (E.set i En.un)[k]? = some (En.own ds) → k ≠ i := fun k ds q z => by
      subst z
      have hl : k < E.length := by
        have := (List.getElem?_eq_some_iff.mp q).1
        simpa using this
      rw [List.getElem?_set_self hl] at q
      cases q
    have n1 := ne _ _ q1
    have n2 := ne _ _ q2
    rw [List.getElem?_set_ne (Ne.symm n1)] at q1
    rw [List.getElem?_set_ne (Ne.symm n2)] at q2
    exact s.d j k ds es p hjk q1 q2 q3 q4
/-- a new list that stands already is named -/
theorem SR.nameOwn (s : SR K bx G0 H0 G H σ E) {i : Nat} {p : Addr} {xs : List V} {ds : List PyData} (h0 : H0 p = none) (gp : G p = none) (mp : G.M p = none) (hx : H p = some (.lst xs)) (m : RpAll K G xs ds)
    (bp : Off bx p) (old : ∀ (j : Nat) (es : List PyData), E[j]? = some (En.own es) → σ[j]? = some (some (V.ref p)) → False) : SR K bx G0 H0 G H (σ.set i (some (.ref p))) (E.set i (.own ds)) := by
  refine ⟨by simpa using s.len, s.x, s.w, fun j en q => ?_, fun j k ds1 es1 p1 hjk q1 q2 q3 q4 => ?_⟩
  · by_cases hj : i = j
    · subst hj
      have hl : i < E.length := by
        have := (List.getElem?_eq_some_iff.mp q).1
        simpa using this
      rw [List.getElem?_set_self hl] at q
      cases q
      exact ⟨p, xs, List.getElem?_set_self (by rw [s.len]; exact hl), h0, ⟨gp, mp⟩, bp, hx, m⟩
    · rw [List.getElem?_set_ne hj] at q
      have z := s.e j en q
      have eσ : (σ.set i (some (V.ref p)))[j]? = σ[j]? := List.getElem?_set_ne hj
      cases en with
      | un => trivial
      | dat d => obtain ⟨u, z1, z2⟩ := z; exact ⟨u, eσ.trans z1, z2⟩
      | own ds => obtain ⟨p, xs, z1, z2⟩ := z; exact ⟨p, xs, eσ.trans z1, z2⟩
      | box => obtain ⟨b, z1, z2⟩ := z; exact ⟨b, z1, eσ.trans z2⟩
      | raw u => exact eσ.trans z
  · have at_i : ∀ k, k = i → (σ.set i (some (V.ref p)))[k]? = some (some (V.ref p1)) → p1 = p := fun k hk z => by
      subst hk
      have hl : k < σ.length := by
        have := (List.getElem?_eq_some_iff.mp z).1
        simpa using this
      rw [List.getElem?_set_self hl] at z
      cases z
      rfl
    by_cases hj : j = i
    · have e1 := at_i j hj q3
      subst e1
      have hk : k ≠ i := fun z => hjk (hj.trans z.symm)
      rw [List.getElem?_set_ne (Ne.symm hk)] at q2 q4
      exact old k es1 q2 q4
    · by_cases hk : k = i
      · have e1 := at_i k hk q4
        subst e1
        rw [List.getElem?_set_ne (Ne.symm hj)] at q1 q3
        exact old j ds1 q1 q3
      · rw [List.getElem?_set_ne (Ne.symm hj)] at q1 q3
        rw [List.getElem?_set_ne (Ne.symm hk)] at q2 q4
        exact s.d j k ds1 es1 p1 hjk q1 q2 q3 q4
/-- what changes a thing at p that is neither frozen nor a cell nor a name's own list -/
theorem SR.poke (s : SR K bx G0 H0 G H σ E) {p : Addr} {o : HO} (h0 : H0 p = none) (gp : G p = none) (mp : G.M p = none) (bp : Off bx p)
    (old : ∀ (j : Nat) (es : List PyData), E[j]? = some (En.own es) → σ[j]? = some (some (V.ref p)) → False) : SR K bx G0 H0 G (upd H p o) σ E := by
  refine ⟨s.len, ⟨s.x.g, fun a u n m q => ?_, s.x.n, fun a u q => ?_, s.x.m⟩, ⟨fun a u q => ?_, fun z hz => ?_, fun a ob q => ?_⟩, fun j en q => ?_, s.d⟩
  · rw [upd_ne (ne_of_none q h0)]; exact s.x.h a u n m q
  · rw [upd_ne (ne_of_none q h0)]; exact s.x.al a u q
  · rw [upd_ne (ne_of_none q gp)]; exact s.w.s a u q
  · obtain ⟨b1, b2⟩ := s.w.b z hz
    exact ⟨b1, b2.up (Same.refl G.G) (upd_ne (bp z hz))⟩
  · obtain ⟨c1, c2, c3⟩ := s.w.c a ob q
    exact ⟨c1.up (Same.refl G.G) (upd_ne fun e => by rw [e, mp] at q; cases q), c2, c3⟩
  · have z := s.e j en q
    cases en with
    | own ds2 =>
      obtain ⟨p2, xs2, y1, y2, y3, y4, y5, y6⟩ := z
      refine ⟨p2, xs2, y1, y2, y3, y4, ?_, y6⟩
      rw [upd_ne fun e => old j ds2 q (by rw [y1, e])]
      exact y5
    | un => trivial
    | dat d => exact z
    | box => exact z
    | raw u => exact z
/-- a list of one's own changed -/
theorem SR.mut (s : SR K bx G0 H0 G H σ E) {i : Nat} {p : Addr} {xs : List V} {ds es : List PyData} (hi : E[i]? = some (.own ds)) (hσ : σ[i]? = some (some (.ref p))) (m : RpAll K G xs es) :
    SR K bx G0 H0 G (upd H p (.lst xs)) σ (E.set i (.own es)) := by
  obtain ⟨p', xs0, z1, z2, ⟨z3, z3'⟩, z4, z5, z6⟩ := s.e i _ hi
  rw [hσ] at z1
  cases z1
  have hl : i < E.length := (List.getElem?_eq_some_iff.mp hi).1
  have s1 := (s.blur (i := i)).poke (o := .lst xs) z2 z3 z3' z4 (fun j es2 q hj => by
    have ne : j ≠ i := fun e => by
      subst e
      rw [List.getElem?_set_self hl] at q
      cases q
    rw [List.getElem?_set_ne (Ne.symm ne)] at q
    exact s.d i j ds es2 p (Ne.symm ne) hi q hσ hj)
  have s2 := s1.nameOwn (i := i) (p := p) z2 z3 z3' upd_same m z4 (fun j es2 q hj => by
    have ne : j ≠ i := fun e => by
      subst e
      rw [List.getElem?_set_self hl] at q
      cases q
    rw [List.getElem?_set_ne (Ne.symm ne)] at q
    exact s.d i j ds es2 p (Ne.symm ne) hi q hσ hj)
  have eσ : σ.set i (some (.ref p)) = σ := by
    apply List.ext_getElem?
    intro j
    by_cases hj : i = j
    · subst hj
      rw [List.getElem?_set_self (by rw [s.len]; exact hl), hσ]
    · rw [List.getElem?_set_ne hj]
  rw [eσ, List.set_set] at s2
  exact s2
/-- a list of one's own frozen -/
theorem SR.frz (s : SR K bx G0 H0 G H σ E) {i : Nat} {p : Addr} {xs : List V} {ds : List PyData} (hi : E[i]? = some (.own ds)) (hσ : σ[i]? = some (some (.ref p))) (hx : H p = some (.lst xs)) :
    SR K bx G0 H0 (G.up p (.lst xs)) H σ (E.set i (.dat (.list ds))) ∧ Rp K (G.up p (.lst xs)) (.ref p) (.list ds) := by
  obtain ⟨p', xs0, z1, z2, ⟨z3, z3'⟩, z4, z5, z6⟩ := s.e i _ hi
  rw [hσ] at z1
  cases z1
  rw [hx] at z5
  cases z5
  have gg : Same G.G (upd G.G p (.lst xs)) := fun a o q => by rw [upd_ne (ne_of_none q z3)]; exact q
  have hl : i < E.length := (List.getElem?_eq_some_iff.mp hi).1
  have hdp : Rp K (upd G.G p (.lst xs)) (.ref p) (.list ds) := .lst upd_same (z6.up gg)
  refine ⟨⟨by simpa using s.len, s.x.freeze z2 z3, ⟨same_freeze s.w.s hx, fun b hb => ?_, fun a ob q => ?_⟩, fun j en q => ?_, fun j k ds1 es1 p1 hjk q1 q2 q3 q4 => ?_⟩, hdp⟩
  · obtain ⟨b1, b2⟩ := s.w.b b hb
    refine ⟨?_, b2.up gg rfl⟩
    show upd G.G p (.lst xs) b.b = none
    rw [upd_ne (z4 b hb)]; exact b1
  · obtain ⟨c1, c2, c3⟩ := s.w.c a ob q
    refine ⟨c1.up gg rfl, ?_, c3⟩
    show upd G.G p (.lst xs) a = none
    have q : G.M a = some ob := q
    rw [upd_ne fun e => by rw [e, z3'] at q; cases q]; exact c2
  · by_cases hj : i = j
    · subst hj
      rw [List.getElem?_set_self hl] at q
      cases q
      exact ⟨_, hσ, hdp⟩
    · rw [List.getElem?_set_ne hj] at q
      have z := s.e j en q
      cases en with
      | un => trivial
      | dat d => obtain ⟨v, y1, y2⟩ := z; exact ⟨v, y1, y2.up gg⟩
      | own ds2 =>
        obtain ⟨p2, xs2, y1, y2, ⟨y3, y3'⟩, y4, y5, y6⟩ := z
        refine ⟨p2, xs2, y1, y2, ⟨?_, y3'⟩, y4, y5, y6.up gg⟩
        show upd G.G p (.lst xs) p2 = none
        rw [upd_ne fun e => s.d i j ds ds2 p hj hi q hσ (by rw [y1, e])]
        exact y3
      | box => exact z
      | raw u => exact z
  · have back : ∀ k es2, (E.set i (En.dat (.list ds)))[k]? = some (En.own es2) → E[k]? = some (En.own es2) := fun k es2 q => by
      by_cases hk : i = k
      · subst hk
        rw [List.getElem?_set_self hl] at q
        cases q
      · rw [List.getElem?_set_ne hk] at q; exact q
    exact s.d j k ds1 es1 p1 hjk (back _ _ q1) (back _ _ q2) q3 q4
/-- an address that is no name's own -/
theorem SR.no_own (s : SR K bx G0 H0 G H σ E) {p : Addr} (hp : H p = none) : ∀ (j : Nat) (es : List PyData), E[j]? = some (En.own es) → σ[j]? = some (some (V.ref p)) → False := fun j es q hσ => by
  obtain ⟨p2, xs2, z1, _, _, _, z5, _⟩ := s.e j _ q
  rw [hσ] at z1
  cases z1
  rw [hp] at z5; cases z5
theorem SR.no_own_m (s : SR K bx G0 H0 G H σ E) {p : Addr} {ob : Ob} (hp : G.M p = some ob) : ∀ (j : Nat) (es : List PyData), E[j]? = some (En.own es) → σ[j]? = some (some (V.ref p)) → False := fun j es q hσ => by
  obtain ⟨p2, xs2, z1, _, ⟨_, z3⟩, _, z5, _⟩ := s.e j _ q
  rw [hσ] at z1
  cases z1
  rw [hp] at z3; cases z3
/-! ### cells: made, changed, frozen -/
/-- a new thing becomes a cell -/
theorem SR.newCell (s : SR K bx G0 H0 G H σ E) {p : Addr} {o : HO} {ob : Ob} (h0 : H0 p = none) (gp : G p = none) (mp : G.M p = none) (bp : Off bx p) (hx : H p = some o) (c : ObOk K G H p ob)
    (old : ∀ (j : Nat) (es : List PyData), E[j]? = some (En.own es) → σ[j]? = some (some (V.ref p)) → False) : SR K bx G0 H0 ⟨G.G, G.M.set p ob⟩ H σ E := by
  refine ⟨s.len, ⟨s.x.g, s.x.h, s.x.n, s.x.al, fun a ob' q => ?_⟩, ⟨s.w.s, s.w.b, fun a ob' q => ?_⟩, fun j en q => ?_, s.d⟩
  · by_cases e : a = p
    · exact .inr (by rw [e]; exact h0)
    · have q : G.M.set p ob a = some ob' := q
      rw [Mu.set_ne e] at q; exact s.x.m a ob' q
  · have q : G.M.set p ob a = some ob' := q
    by_cases e : a = p
    · subst e
      rw [Mu.set_same] at q
      cases q
      exact ⟨c, gp, bp⟩
    · rw [Mu.set_ne e] at q; exact s.w.c a ob' q
  · have z := s.e j en q
    cases en with
    | own ds2 =>
      obtain ⟨p2, xs2, y1, y2, ⟨y3, y3'⟩, y4, y5, y6⟩ := z
      refine ⟨p2, xs2, y1, y2, ⟨y3, ?_⟩, y4, y5, y6⟩
      show G.M.set p ob p2 = none
      rw [Mu.set_ne fun e => old j ds2 q (by rw [y1, e])]
      exact y3'
    | un => trivial
    | dat d => exact z
    | box => exact z
    | raw u => exact z
/-- a cell's content changes -/
theorem Ext.cell {a : Addr} {o : HO} {ob ob' : Ob} (w : Wo K bx G H) (hm : G.M a = some ob) (c : ObOk K G (upd H a o) a ob') : Ext bx G H ⟨G.G, G.M.set a ob'⟩ (upd H a o) ∧ Wo K bx ⟨G.G, G.M.set a ob'⟩ (upd H a o) := by
  obtain ⟨c1, c2, c3⟩ := w.c a ob hm
  refine ⟨⟨Same.refl _, fun b u n m q => ?_, fun b u q => .inl q, fun b u q => ?_, fun b ob2 q => ?_⟩, ⟨fun b u q => ?_, fun z hz => ?_, fun b ob2 q => ?_⟩⟩
  · rw [upd_ne fun e => by rw [e, hm] at m; cases m]; exact q
  · by_cases e : b = a
    · rw [e]; exact ⟨o, upd_same⟩
    · rw [upd_ne e]; exact ⟨u, q⟩
  · by_cases e : b = a
    · rw [e]; exact .inl ⟨ob, hm⟩
    · have q : G.M.set a ob' b = some ob2 := q
      rw [Mu.set_ne e] at q; exact .inl ⟨ob2, q⟩
  · rw [upd_ne fun e => by have q : G b = some u := q; rw [e, c2] at q; cases q]; exact w.s b u q
  · obtain ⟨b1, b2⟩ := w.b z hz
    exact ⟨b1, b2.up (Same.refl G.G) (upd_ne (c3 z hz))⟩
  · have q : G.M.set a ob' b = some ob2 := q
    by_cases e : b = a
    · subst e
      rw [Mu.set_same] at q
      cases q
      exact ⟨c, c2, c3⟩
    · rw [Mu.set_ne e] at q
      obtain ⟨d1, d2, d3⟩ := w.c b ob2 q
      exact ⟨d1.up (Same.refl G.G) (upd_ne e), d2, d3⟩
/-- a cell is frozen -/
theorem SR.frzCell (s : SR K bx G0 H0 G H σ E) {a : Addr} {o : HO} {ob : Ob} (hm : G.M a = some ob) (hx : H a = some o) : Ext bx G H ⟨upd G.G a o, G.M.del a⟩ H ∧ SR K bx G0 H0 ⟨upd G.G a o, G.M.del a⟩ H σ E ∧ Same G.G (upd G.G a o) := by
  obtain ⟨c1, c2, c3⟩ := s.w.c a ob hm
  have gg : Same G.G (upd G.G a o) := fun b u q => by rw [upd_ne (ne_of_none q c2)]; exact q
  have e1 : Ext bx G H ⟨upd G.G a o, G.M.del a⟩ H := by
    refine ⟨gg, fun b u _ _ q => q, fun b u q => ?_, fun b u q => ⟨u, q⟩, fun b ob2 q => ?_⟩
    · have q : upd G.G a o b = some u := q
      by_cases e : b = a
      · rw [e]; exact .inr (.inr ⟨ob, hm⟩)
      · rw [upd_ne e] at q; exact .inl q
    · have q : G.M.del a b = some ob2 := q
      by_cases e : b = a
      · rw [e, Mu.del_same] at q; cases q
      · rw [Mu.del_ne e] at q; exact .inl ⟨ob2, q⟩
  refine ⟨e1, s.ext e1 ⟨same_freeze s.w.s hx, fun z hz => ?_, fun b ob2 q => ?_⟩, gg⟩
  · obtain ⟨b1, b2⟩ := s.w.b z hz
    refine ⟨?_, b2.up gg rfl⟩
    show upd G.G a o z.b = none
    rw [upd_ne (c3 z hz)]; exact b1
  · have q : G.M.del a b = some ob2 := q
    by_cases e : b = a
    · rw [e, Mu.del_same] at q; cases q
    · rw [Mu.del_ne e] at q
      obtain ⟨d1, d2, d3⟩ := s.w.c b ob2 q
      refine ⟨d1.up gg rfl, ?_, d3⟩
      show upd G.G a o b = none
      rw [upd_ne e]; exact d2
end
end Wx

namespace Wx
open PySem PySem.Spec PyProof.Rows L2

/-! ### readings over data alone; M: the cells -/
/-- an error: its class's name, its bars -/
abbrev Er := Str × Option PyData
abbrev DE := List En → (PyData → Mu → Prop) → (Er → Mu → Prop) → Mu → Prop
abbrev DT := List En → (Bool → Mu → Prop) → (Er → Mu → Prop) → Mu → Prop
abbrev DA := List En → (List En → Mu → Prop) → (Er → Mu → Prop) → Mu → Prop
abbrev DF := List En → (List PyData → Mu → Prop) → (Er → Mu → Prop) → Mu → Prop
abbrev XF : Er → Mu → Prop := fun _ _ => False
def ErOk (K : PySem.W.Frag) (G H : Hp) (x : Er) (cls : Value) (dd : Option Addr) : Prop :=
  cls = .ref (He.ga K x.1) ∧ match x.2 with
    | none => dd = none
    | some d => ∃ a v, dd = some a ∧ H a = some (.xd [("bars", v)]) ∧ Rp K G v d
/-- what stands around: entry, the heaps, the names -/
structure Pt where
  bx : Option Bx
  G0 : Gm
  H0 : Hp
  G : Gm
  E : List En
abbrev Pt.ok (P : Pt) (K : PySem.W.Frag) (H : Hp) (σ : L2.St) : Prop := SR K P.bx P.G0 P.H0 P.G H σ P.E
abbrev Pt.go (P : Pt) (G : Gm) : Pt := { P with G := G }
def ErTo (K : PySem.W.Frag) (W : WX) (P : Pt) (σ : L2.St) (Xn : Er → Mu → Prop) : Prop :=
  ∀ x cls dd (G' : Gm) H', SR K P.bx P.G0 P.H0 G' H' σ P.E → ErOk K G' H' x cls dd → Xn x G'.M → W cls dd σ H'
def liftE (K : PySem.W.Frag) (W : WX) (de : DE) : TE := fun σ H Q => ∃ (P : Pt) (R : PyData → Mu → Prop) (Xn : Er → Mu → Prop), P.ok K H σ ∧ de P.E R Xn P.G.M ∧
  (∀ v (G' : Gm) H' d, Ext P.bx P.G H G' H' → (P.go G').ok K H' σ → Rp K G' v d → R d G'.M → Q v H') ∧ ErTo K W P σ Xn
def liftT (K : PySem.W.Frag) (W : WX) (dt : DT) : TT := fun σ H Q => ∃ (P : Pt) (R : Bool → Mu → Prop) (Xn : Er → Mu → Prop), P.ok K H σ ∧ dt P.E R Xn P.G.M ∧
  (∀ b (G' : Gm) H', Ext P.bx P.G H G' H' → (P.go G').ok K H' σ → R b G'.M → Q b H') ∧ ErTo K W P σ Xn
/-- a new list of one's own, not yet named -/
def liftF (K : PySem.W.Frag) (W : WX) (df : DF) : TE := fun σ H Q => ∃ (P : Pt) (R : List PyData → Mu → Prop) (Xn : Er → Mu → Prop), P.ok K H σ ∧ df P.E R Xn P.G.M ∧
  (∀ p xs (G' : Gm) H' ds, Ext P.bx P.G H G' H' → (P.go G').ok K H' σ → H p = none → G' p = none → G'.M p = none → H' p = some (.lst xs) → RpAll K G' xs ds → R ds G'.M → Q (.ref p) H') ∧ ErTo K W P σ Xn
def ArgOk (K : PySem.W.Frag) (bx : Option Bx) (G : Hp) (v : V) : En → Prop
  | .un => True
  | .dat d => Rp K G v d
  | .own _ => False
  | .box => ∃ z, bx = some z ∧ v = .ref z.b
  | .raw u => v = u
abbrev ArgsOk (K : PySem.W.Frag) (bx : Option Bx) (G : Hp) : List V → List En → Prop := Paired (ArgOk K bx G)
def liftA (K : PySem.W.Frag) (W : WX) (da : DA) : TA := fun σ H Q => ∃ (P : Pt) (R : List En → Mu → Prop) (Xn : Er → Mu → Prop), P.ok K H σ ∧ da P.E R Xn P.G.M ∧
  (∀ vs (G' : Gm) H' as, Ext P.bx P.G H G' H' → (P.go G').ok K H' σ → ArgsOk K P.bx G' vs as → R as G'.M → Q vs H') ∧ ErTo K W P σ Xn
section
variable {K : PySem.W.Frag}
theorem ArgOk.up {bx : Option Bx} {G G' : Hp} {v : V} {a : En} (h : ArgOk K bx G v a) (e : Same G G') : ArgOk K bx G' v a := by
  cases a with
  | dat d => exact Rp.up h e
  | _ => exact h
theorem ArgsOk.up {bx : Option Bx} {G G' : Hp} : ∀ {vs : List V} {as : List En}, ArgsOk K bx G vs as → Same G G' → ArgsOk K bx G' vs as
  | _, _, .nil, _ => .nil
  | _, _, .cons r t, e => .cons (r.up e) (ArgsOk.up t e)
theorem ArgsOk.dats {bx : Option Bx} {G : Hp} : ∀ {vs : List V} {ds : List PyData}, ArgsOk K bx G vs (ds.map .dat) → RpAll K G vs ds
  | _, [], .nil => .nil
  | _, _ :: _, .cons r t => .cons r (ArgsOk.dats t)
end

section
variable {X : Cx} {W : WX}
theorem pe_imp {e : Expr} {t t' : TE} (h : PE X e t) (i : ∀ σ H Q, t' σ H Q → t σ H Q) : PE X e t' := ⟨fun pins s σ H Q I q => h.run pins s σ H Q I (i σ H Q q)⟩
theorem pt_imp {e : Expr} {t t' : TT} (h : PT X e t) (i : ∀ σ H Q, t' σ H Q → t σ H Q) : PT X e t' := ⟨fun pins s σ H Q I q => h.run pins s σ H Q I (i σ H Q q)⟩
theorem pw_imp {e : Expr} {t t' : TT} (h : PW X e t) (i : ∀ σ H Q, t' σ H Q → t σ H Q) : PW X e t' := ⟨fun wh pins s σ H Q I q => h.run wh pins s σ H Q I (i σ H Q q)⟩
theorem pa_imp {e : List Expr} {t t' : TA} (h : PA X e t) (i : ∀ σ H Q, t' σ H Q → t σ H Q) : PA X e t' := ⟨fun pos pins s σ H Q I q => h.run pos pins s σ H Q I (i σ H Q q)⟩
theorem pss_imp {e : List Stmt} {t t' : TS} (h : PSs X e t) (i : ∀ D σ H, t' D σ H → t D σ H) : PSs X e t' := ⟨fun pins s σ H D I q => h.run pins s σ H D I (i D σ H q)⟩
theorem ps_imp {e : Stmt} {t t' : TS} (h : PS X e t) (i : ∀ D σ H, t' D σ H → t D σ H) : PS X e t' := ⟨fun pins s σ H D I q => h.run pins s σ H D I (i D σ H q)⟩
end
abbrev QE (X : Cx) (W : WX) (e : Expr) (de : DE) : Prop := PE X e (liftE X.K W de)
abbrev QT (X : Cx) (W : WX) (e : Expr) (dt : DT) : Prop := PT X e (liftT X.K W dt)
abbrev QW (X : Cx) (W : WX) (e : Expr) (dt : DT) : Prop := PW X e (liftT X.K W dt)
abbrev QA (X : Cx) (W : WX) (es : List Expr) (da : DA) : Prop := PA X es (liftA X.K W da)
abbrev QF (X : Cx) (W : WX) (e : Expr) (df : DF) : Prop := PE X e (liftF X.K W df)

/-! ### names, constants -/
def dVar (i : Nat) : DE := fun E R _ M => ∃ d, E[i]? = some (.dat d) ∧ R d M
def dC (d : PyData) : DE := fun _ R _ M => R d M
section
variable {X : Cx} {W : WX} {pos : Pos}
theorem q_var (i : Nat) {x : Str} (h : PE X (.Name x pos) (tVar i)) : QE X W (.Name x pos) (dVar i) := pe_imp h fun σ H Q ⟨P, R, Xn, S, ⟨d, he, r⟩, k, _⟩ => by
  obtain ⟨v, h1, h2⟩ := S.dat he
  exact ⟨v, h1, k v P.G H d Ext.refl S h2 r⟩
theorem q_c {e : Expr} {v : V} {d : PyData} (h : PE X e (tC v)) (hv : ∀ (K : PySem.W.Frag) (G : Hp), Rp K G v d) : QE X W e (dC d) := pe_imp h fun σ H Q ⟨P, R, Xn, S, r, k, _⟩ => k v P.G H d Ext.refl S (hv _ _) r
theorem q_int {i j} : QE X W (.Constant (.int i) j pos) (dC (.int i)) := q_c pe_int fun _ _ => .int i
theorem q_bl {b j} : QE X W (.Constant (.bool b) j pos) (dC (.bool b)) := q_c pe_bl fun _ _ => .bl b
theorem q_non {j} : QE X W (.Constant .none j pos) (dC .none) := q_c pe_non fun _ _ => .non
theorem q_str {x j} : QE X W (.Constant (.str x) j pos) (dC (.str x)) := q_c pe_str fun _ _ => .str x
theorem q_gint {x : Str} {i : Int} (h : PE X (.Name x pos) (tC (.int i))) : QE X W (.Name x pos) (dC (.int i)) := q_c h fun _ _ => .int i
theorem q_gstr {x : Str} {i : Str} (h : PE X (.Name x pos) (tC (.str i))) : QE X W (.Name x pos) (dC (.str i)) := q_c h fun _ _ => .str i
end

/-! ### operators -/
abbrev F2 := PyData → PyData → (PyData → Prop) → Prop
def R2Ok (K : PySem.W.Frag) (r : R2) (f : F2) : Prop := ∀ (G H : Hp) (v w : V) (x y : PyData) (R : PyData → Prop) (Q : VK), Same G H → Rp K G v x → Rp K G w y → f x y R →
  (∀ u G' H' d, Gro G H G' H' → Same G' H' → Rp K G' u d → R d → Q u H') → r v w H Q
def dOp (f : F2) (da db : DE) : DE := fun E R Xn => da E (fun x => db E (fun y M => f x y fun z => R z M) Xn) Xn
section
variable {X : Cx} {W : WX} {pos : Pos} {a b c : Expr} {da db dc : DE}
theorem lift_op {K : PySem.W.Frag} {r : R2} {f : F2} (hs : R2Ok K r f) {σ : L2.St} {H : Hp} {Q : VK} (h : liftE K W (dOp f da db) σ H Q) : tOp r (liftE K W da) (liftE K W db) σ H Q := by
  obtain ⟨P, R, Xn, S, h, k, kx⟩ := h
  refine ⟨P, _, Xn, S, h, fun v G1 H1 d e1 S1 r1 h1 => ?_, kx⟩
  refine ⟨P.go G1, _, Xn, S1, h1, fun w G2 H2 y e2 S2 r2 h2 => ?_, kx⟩
  refine hs G2.G H2 v w d y (fun z => R z G2.M) Q S2.w.s (r1.up e2.g) r2 h2 fun u G' H' z e3 s3 r3 h3 => ?_
  exact k u ⟨G', G2.M⟩ H' z (e1.trans (e2.trans e3.any)) (S2.pure e3 s3) r3 h3
theorem q_op {op : Operator} {r : R2} {f : F2} (ho : OpR X (binaryOp op) r) (hs : R2Ok X.K r f) (ha : QE X W a da) (hb : QE X W b db) : QE X W (.BinOp a op b pos) (dOp f da db) :=
  pe_imp (pe_op ho ha hb) fun _ _ _ => lift_op hs
theorem q_cmp {op : CmpOp} {r : R2} {f : F2} (ho : OpR X (compareOp op) r) (hs : R2Ok X.K r f) (hm : behindInMarks op b = false) (ha : QE X W a da) (hb : QE X W b db) : QE X W (.Compare a [op] [b] pos) (dOp f da db) :=
  pe_imp (pe_cmpR ho ha hb hm) fun _ _ _ => lift_op hs
/-- its answer as a test -/
def dTB (de : DE) : DT := fun E R Xn => de E (fun d M => ∃ b, d = .bool b ∧ R b M) Xn
theorem lift_tb {K : PySem.W.Frag} {de : DE} {σ : L2.St} {H : Hp} {Q : Bool → Hp → Prop} (h : liftT K W (dTB de) σ H Q) : tB (liftE K W de) σ H Q := by
  obtain ⟨P, R, Xn, S, h, k, kx⟩ := h
  refine ⟨P, _, Xn, S, h, fun v G1 H1 d e1 S1 r1 h1 => ?_, kx⟩
  obtain ⟨b, rfl, h2⟩ := h1
  cases r1
  exact ⟨b, rfl, k b G1 H1 e1 S1 h2⟩
theorem t_cmp {op : CmpOp} {r : R2} {f : F2} (ho : OpR X (compareOp op) r) (hs : R2Ok X.K r f) (hm : behindInMarks op b = false) (ha : QE X W a da) (hb : QE X W b db) : QT X W (.Compare a [op] [b] pos) (dTB (dOp f da db)) := by
  refine pt_imp (pt_cmpR ho ha hb hm) fun σ H Q h => ?_
  obtain ⟨P, R, Xn, S, h, k, kx⟩ := h
  exact lift_op (W := W) hs ⟨P, _, Xn, S, h, fun v G1 H1 d e1 S1 r1 ⟨b, eb, h2⟩ => by
    subst eb
    cases r1
    exact ⟨b, rfl, k b G1 H1 e1 S1 h2⟩, kx⟩
theorem t_val {e : Expr} {de : DE} (h : QE X W e de) (he : ∀ whole, isTrue e X.env whole = (do let v ← whole; standAt e.pos; holding [v] (truthy v)) := by intro _; rfl) : QT X W e (dTB de) := pt_imp (pt_val h he) fun _ _ _ => lift_tb
/-- a < b < c -/
def dChain (f g : F2) (da db dc : DE) : DE := fun E R Xn => da E (fun x => db E (fun y M => f x y fun z => ∃ k, z = .bool k ∧ (k = true → dc E (fun w M => g y w fun z => R z M) Xn M) ∧ (k = false → R (.bool false) M)) Xn) Xn
theorem lift_chain {K : PySem.W.Frag} {r r' : R2} {f g : F2} (hf : R2Ok K r f) (hg : R2Ok K r' g) {σ : L2.St} {H : Hp} {Q : VK} (h : liftE K W (dChain f g da db dc) σ H Q) : tChain r r' (liftE K W da) (liftE K W db) (liftE K W dc) σ H Q := by
  obtain ⟨P, R, Xn, S, h, k, kx⟩ := h
  refine ⟨P, _, Xn, S, h, fun v G1 H1 x e1 S1 r1 h1 => ?_, kx⟩
  refine ⟨P.go G1, _, Xn, S1, h1, fun w G2 H2 y e2 S2 r2 h2 => ?_, kx⟩
  refine hf G2.G H2 v w x y _ _ S2.w.s (r1.up e2.g) r2 h2 fun u G3 H3 z e3 s3 r3 ⟨kk, ek, h3, h4⟩ => ?_
  subst ek
  cases r3
  refine ⟨kk, rfl, ?_⟩
  have S3 := S2.pure e3 s3
  cases kk with
  | false => exact k _ ⟨G3, G2.M⟩ H3 _ (e1.trans (e2.trans e3.any)) S3 (.bl false) (h4 rfl)
  | true =>
    refine ⟨P.go ⟨G3, G2.M⟩, _, Xn, S3, h3 rfl, fun w4 G4 H4 z4 e4 S4 r4 h5 => ?_, kx⟩
    refine hg G4.G H4 w w4 y z4 (fun z => R z G4.M) Q S4.w.s (r2.up (e3.g.trans e4.g)) r4 h5 fun u G' H' z e5 s5 r5 h6 => ?_
    exact k u ⟨G', G4.M⟩ H' z (e1.trans (e2.trans (e3.any.trans (e4.trans e5.any)))) (S4.pure e5 s5) r5 h6
theorem q_chain {op op' : CmpOp} {r r' : R2} {f g : F2} (ho : OpR X (compareOp op) r) (ho' : OpR X (compareOp op') r') (hf : R2Ok X.K r f) (hg : R2Ok X.K r' g) (ha : QE X W a da) (hb : QE X W b db) (hc : QE X W c dc)
    (hm : lastMarks [op, op'] [b, c] = false := by with_unfolding_all rfl) : QE X W (.Compare a [op, op'] [b, c] pos) (dChain f g da db dc) := pe_imp (pe_chain ho ho' ha hb hc hm) fun _ _ _ => lift_chain hf hg
theorem t_chain {op op' : CmpOp} {r r' : R2} {f g : F2} (ho : OpR X (compareOp op) r) (ho' : OpR X (compareOp op') r') (hf : R2Ok X.K r f) (hg : R2Ok X.K r' g) (ha : QE X W a da) (hb : QE X W b db) (hc : QE X W c dc)
    (hm : lastMarks [op, op'] [b, c] = false := by with_unfolding_all rfl) : QT X W (.Compare a [op, op'] [b, c] pos) (dTB (dChain f g da db dc)) := by
  refine pt_imp (pt_chain ho ho' ha hb hc hm) fun σ H Q h => ?_
  obtain ⟨P, R, Xn, S, h, k, kx⟩ := h
  exact lift_chain (W := W) hf hg ⟨P, _, Xn, S, h, fun v G1 H1 d e1 S1 r1 ⟨b, eb, h2⟩ => by
    subst eb
    cases r1
    exact ⟨b, rfl, k b G1 H1 e1 S1 h2⟩, kx⟩
end

/-! ### the operators over data -/
def small : PyData → Prop
  | .str x => x.length ≤ sizeLine
  | .list x => x.length ≤ sizeLine
  | .tuple x => x.length ≤ sizeLine
  | _ => True
def addD : PyData → PyData → Option PyData
  | .int i, .int j => some (.int (i + j))
  | .str x, .str y => some (.str (x ++ y))
  | .list x, .list y => some (.list (x ++ y))
  | .tuple x, .tuple y => some (.tuple (x ++ y))
  | _, _ => none
def fAdd : F2 := fun x y R => ∃ z, addD x y = some z ∧ small z ∧ R z
def rPlus (K : PySem.W.Frag) : R2 := fun x y H Q => (∃ i j, x = .int i ∧ y = .int j ∧ Q (.int (i + j)) H) ∨ (∃ i j, x = .str i ∧ y = .str j ∧ i.length + j.length ≤ sizeLine ∧ Q (.str (i ++ j)) H) ∨ rCat x y H Q ∨ rCatA K x y H Q
theorem op_plus {X : Cx} : OpR X (binaryOp .Add) (rPlus X.K) := OpR.or op_add (OpR.or op_add_str (OpR.or op_cat op_catA))
theorem len_app (x y : Str) : (x ++ y).length = x.length + y.length := by
  show (x.cps ++ y.cps).size = _
  rw [Array.size_append]
  rfl
theorem plus_ok {K : PySem.W.Frag} : R2Ok K (rPlus K) fAdd := fun G H v w x y R Q s r1 r2 ⟨z, ez, hz, hR⟩ k => by
  cases r1 with
  | int i =>
    cases r2 with
    | int j => cases ez; exact .inl ⟨i, j, rfl, rfl, k _ G H _ Gro.refl s (.int _) hR⟩
    | _ => cases ez
  | str i =>
    cases r2 with
    | str j => cases ez; exact .inr (.inl ⟨i, j, rfl, rfl, by rw [← len_app]; exact hz, k _ G H _ Gro.refl s (.str _) hR⟩)
    | _ => cases ez
  | @lst a xs ds h1 a1 =>
    cases r2 with
    | @lst b ys es h2 a2 =>
      cases ez
      have hl : xs.length + ys.length ≤ sizeLine := by
        rw [a1.length, a2.length, ← List.length_append]; exact hz
      refine .inr (.inr (.inl ⟨a, b, xs, ys, rfl, rfl, s _ _ h1, s _ _ h2, hl, fun p hp => ?_⟩))
      have e := Gro.new (o := .lst (xs ++ ys)) s hp
      exact k _ _ _ _ e (same_new s) (.lst upd_same ((a1.app a2).up e.g)) hR
    | _ => cases ez
  | @tup a xs ds h1 a1 =>
    cases r2 with
    | @tup b ys es h2 a2 =>
      cases ez
      have hl : xs.length + ys.length ≤ sizeLine := by
        rw [a1.length, a2.length, ← List.length_append]; exact hz
      refine .inr (.inr (.inr ⟨a, b, xs, ys, rfl, rfl, SqT.of (s _ _ h1), SqT.of (s _ _ h2), hl, fun e => ?_, fun e1 e2 => ?_, fun _ _ p hp => ?_⟩))
      · subst e
        have : ds = [] := List.eq_nil_of_length_eq_zero (by rw [← a1.length]; rfl)
        subst this
        exact k _ G H _ Gro.refl s (.tup h2 a2) hR
      · subst e2
        have : es = [] := List.eq_nil_of_length_eq_zero (by rw [← a2.length]; rfl)
        subst this
        rw [List.append_nil] at hR
        exact k _ G H _ Gro.refl s (.tup h1 a1) hR
      · have e := Gro.new (o := .tup (xs ++ ys)) s hp
        exact k _ _ _ _ e (same_new s) (.tup upd_same ((a1.app a2).up e.g)) hR
    | _ => cases ez
  | _ => cases r2 <;> cases ez
/-- two ints -/
def fII (C : Int → Int → Prop) (g : Int → Int → PyData) : F2 := fun x y R => ∃ i j, x = .int i ∧ y = .int j ∧ C i j ∧ R (g i j)
theorem ii_ok {K : PySem.W.Frag} {C : Int → Int → Prop} {g : Int → Int → V} {g' : Int → Int → PyData} (hg : ∀ (G : Hp) i j, Rp K G (g i j) (g' i j)) : R2Ok K (rI C g) (fII C g') := fun G H v w x y R Q s r1 r2 ⟨i, j, e1, e2, hc, hR⟩ k => by
  subst e1 e2
  cases r1
  cases r2
  exact ⟨i, j, rfl, rfl, hc, k _ G H _ Gro.refl s (hg G i j) hR⟩
theorem ii0_ok {K : PySem.W.Frag} {g : Int → Int → V} {g' : Int → Int → PyData} (hg : ∀ (G : Hp) i j, Rp K G (g i j) (g' i j)) : R2Ok K (rI0 g) (fII (fun _ _ => True) g') := fun G H v w x y R Q s r1 r2 ⟨i, j, e1, e2, _, hR⟩ k => by
  subst e1 e2
  cases r1
  cases r2
  exact ⟨i, j, rfl, rfl, k _ G H _ Gro.refl s (hg G i j) hR⟩
abbrev CT : Int → Int → Prop := fun _ _ => True
def fSub : F2 := fII CT fun i j => .int (i - j)
def fMul : F2 := fII CMul fun i j => .int (i * j)
def fDiv : F2 := fII CDiv fun i j => .int (i / j)
def fMod : F2 := fII (fun _ j => 0 < j) fun i j => .int (i % j)
def fPow : F2 := fII CPow fun i j => .int (i ^ j.toNat)
def fLt : F2 := fII CT fun i j => .bool (decide (i < j))
def fLe : F2 := fII CT fun i j => .bool (decide (i ≤ j))
def fGt : F2 := fII CT fun i j => .bool (decide (j < i))
def fGe : F2 := fII CT fun i j => .bool (decide (j ≤ i))
abbrev sh (d : PyData) : Prop := SeqAt.shaped d = true
def fEq : F2 := fun x y R => sh x ∧ sh y ∧ R (.bool (PyData.eqv x y))
def fNe : F2 := fun x y R => sh x ∧ sh y ∧ R (.bool (!PyData.eqv x y))
theorem eq_ok {K : PySem.W.Frag} : R2Ok K (rEqD K) fEq := fun G H v w x y R Q s r1 r2 ⟨a, b, hR⟩ k => ⟨x, y, r1.dp s a, r2.dp s b, a, b, k _ G H _ Gro.refl s (.bl _) hR⟩
theorem ne_ok {K : PySem.W.Frag} : R2Ok K (rNeD K) fNe := fun G H v w x y R Q s r1 r2 ⟨a, b, hR⟩ k => ⟨x, y, r1.dp s a, r2.dp s b, a, b, k _ G H _ Gro.refl s (.bl _) hR⟩
/-- flat data -/
def flatD : PyData → Bool
  | .none => true
  | .bool _ => true
  | .int _ => true
  | .str _ => true
  | _ => false
theorem rp_flat {K : PySem.W.Frag} {G : Hp} {v : V} {d : PyData} (r : Rp K G v d) : flatV v = flatD d := by cases r <;> rfl
theorem rp_flats {K : PySem.W.Frag} {G : Hp} : ∀ {vs : List V} {ds : List PyData}, RpAll K G vs ds → vs.all flatV = ds.all flatD
  | _, _, .nil => rfl
  | _, _, .cons r t => by rw [List.all_cons, List.all_cons, rp_flat r, rp_flats t]
theorem eqV_eqv {K : PySem.W.Frag} {G : Hp} {v w : V} {x y : PyData} (r1 : Rp K G v x) (r2 : Rp K G w y) (f1 : flatD x = true) (f2 : flatD y = true) : eqV v w = PyData.eqv x y := by
  cases r1 <;> cases r2 <;> first | rfl | cases f1 | cases f2 | simp [eqV, PyData.eqv]
theorem inV_eqv {K : PySem.W.Frag} {G : Hp} {v : V} {x : PyData} (r : Rp K G v x) (f : flatD x = true) : ∀ {vs : List V} {ds : List PyData}, RpAll K G vs ds → ds.all flatD = true → inV v vs = ds.any fun z => PyData.eqv z x
  | _, _, .nil, _ => rfl
  | _, _, .cons r1 t, h => by
    rw [List.all_cons, Bool.and_eq_true] at h
    show (eqV _ v || inV v _) = _
    rw [List.any_cons, eqV_eqv r1 r h.1 f, inV_eqv r f t h.2]
/-- x in a list, a tuple of flat things, a text (one sign) -/
def fIn (neg : Bool) : F2 := fun x y R => match y with
  | .list ds => sh x ∧ sh (.list ds) ∧ R (.bool (neg != ds.any fun z => PyData.eqv z x))
  | .tuple ds => flatD x = true ∧ ds.all flatD = true ∧ R (.bool (neg != ds.any fun z => PyData.eqv z x))
  | .str z => ∃ c : Nat, x = .str ⟨#[c]⟩ ∧ R (.bool (neg != decide (c ∈ z.cps.toList)))
  | _ => False
def rInA (K : PySem.W.Frag) : R2 := fun x y H Q => rInD K x y H Q ∨ rIn K false x y H Q ∨ ∃ (c : Nat) (z : Str), x = .str ⟨#[c]⟩ ∧ y = .str z ∧ Q (.bl (decide (c ∈ z.cps.toList))) H
def rNotInA (K : PySem.W.Frag) : R2 := fun x y H Q => rNotInD K x y H Q ∨ rIn K true x y H Q ∨ ∃ (c : Nat) (z : Str), x = .str ⟨#[c]⟩ ∧ y = .str z ∧ Q (.bl (!decide (c ∈ z.cps.toList))) H
theorem op_inA {X : Cx} (hu : X.A.units + 65 < cLine) : OpR X (compareOp .In) (rInA X.K) := OpR.or (op_inD hu) (OpR.or op_in_seq op_in_sign)
theorem op_notInA {X : Cx} (hu : X.A.units + 65 < cLine) : OpR X (compareOp .NotIn) (rNotInA X.K) := OpR.or (op_notInD hu) (OpR.or op_notIn_seq op_notIn_sign)
theorem in_ok {K : PySem.W.Frag} : R2Ok K (rInA K) (fIn false) := fun G H v w x y R Q s r1 r2 h k => by
  cases r2 with
  | @lst a xs ds h1 a1 =>
    obtain ⟨q1, q2, hR⟩ := h
    exact .inl ⟨x, ds, r1.dp s q1, .lst (SqL.of (s _ _ h1)) (a1.dp s q2), q1, q2, k _ G H _ Gro.refl s (.bl _) (by simpa using hR)⟩
  | @tup a xs ds h1 a1 =>
    obtain ⟨q1, q2, hR⟩ := h
    exact .inr (.inl ⟨a, xs, rfl, .inr (SqT.of (s _ _ h1)), by rw [rp_flat r1]; exact q1, by rw [rp_flats a1]; exact q2, k _ G H _ Gro.refl s (.bl _) (by rw [inV_eqv r1 q1 a1 q2]; simpa using hR)⟩)
  | str z =>
    obtain ⟨c, e, hR⟩ := h
    subst e
    cases r1
    exact .inr (.inr ⟨c, z, rfl, rfl, k _ G H _ Gro.refl s (.bl _) (by simpa using hR)⟩)
  | _ => exact h.elim
theorem notIn_ok {K : PySem.W.Frag} : R2Ok K (rNotInA K) (fIn true) := fun G H v w x y R Q s r1 r2 h k => by
  cases r2 with
  | @lst a xs ds h1 a1 =>
    obtain ⟨q1, q2, hR⟩ := h
    exact .inl ⟨x, ds, r1.dp s q1, .lst (SqL.of (s _ _ h1)) (a1.dp s q2), q1, q2, k _ G H _ Gro.refl s (.bl _) (by simpa using hR)⟩
  | @tup a xs ds h1 a1 =>
    obtain ⟨q1, q2, hR⟩ := h
    exact .inr (.inl ⟨a, xs, rfl, .inr (SqT.of (s _ _ h1)), by rw [rp_flat r1]; exact q1, by rw [rp_flats a1]; exact q2, k _ G H _ Gro.refl s (.bl _) (by rw [if_pos rfl, inV_eqv r1 q1 a1 q2]; simpa using hR)⟩)
  | str z =>
    obtain ⟨c, e, hR⟩ := h
    subst e
    cases r1
    exact .inr (.inr ⟨c, z, rfl, rfl, k _ G H _ Gro.refl s (.bl _) (by simpa using hR)⟩)
  | _ => exact h.elim
/-- is None -/
def isN (d : PyData) : Bool := match d with
  | .none => true
  | _ => false
def fIsN : F2 := fun x y R => y = .none ∧ R (.bool (isN x))
def fNotN : F2 := fun x y R => y = .none ∧ R (.bool (!isN x))
def rIsN' : R2 := fun x y H Q => y = .non ∧ Q (.bl (decide (x = .non))) H
def rNotN' : R2 := fun x y H Q => y = .non ∧ Q (.bl (!decide (x = .non))) H
theorem op_isN' {X : Cx} : OpR X (compareOp .Is) rIsN' := op_isN
theorem op_notN' {X : Cx} : OpR X (compareOp .IsNot) rNotN' := op_notN
theorem rp_isN {K : PySem.W.Frag} {G : Hp} {v : V} {x : PyData} (r : Rp K G v x) : decide (v = .non) = isN x := by cases r <;> simp [isN]
theorem isN_ok {K : PySem.W.Frag} : R2Ok K rIsN' fIsN := fun G H v w x y R Q s r1 r2 ⟨e, hR⟩ k => by
  subst e
  cases r2
  exact ⟨rfl, k _ G H _ Gro.refl s (.bl _) (by rw [rp_isN r1]; exact hR)⟩
theorem notN_ok {K : PySem.W.Frag} : R2Ok K rNotN' fNotN := fun G H v w x y R Q s r1 r2 ⟨e, hR⟩ k => by
  subst e
  cases r2
  exact ⟨rfl, k _ G H _ Gro.refl s (.bl _) (by rw [rp_isN r1]; exact hR)⟩
/-- an item -/
def ixD (x : PyData) (i : Int) : Option PyData := match x with
  | .list ds => atI ds i
  | .tuple ds => atI ds i
  | .str z => (atI z.cps.toList i).map fun c => .str ⟨#[c]⟩
  | _ => none
def fIx : F2 := fun x y R => ∃ i z, y = .int i ∧ small x ∧ ixD x i = some z ∧ R z
theorem atI_rp {K : PySem.W.Frag} {G : Hp} {xs : List V} {ds : List PyData} {i : Int} {d : PyData} (r : RpAll K G xs ds) (h : atI ds i = some d) : ∃ v, atI xs i = some v ∧ Rp K G v d := by
  unfold atI at h ⊢
  rw [r.length]
  cases e : ixN ds.length i with
  | none => rw [e] at h; cases h
  | some j =>
    rw [e] at h
    exact r.at h
theorem ix_ok {K : PySem.W.Frag} : R2Ok K (rIx K) fIx := fun G H v w x y R Q s r1 r2 ⟨i, z, e, hz, hi, hR⟩ k => by
  subst e
  cases r2
  cases r1 with
  | @lst a xs ds h1 a1 =>
    obtain ⟨u, hu, ru⟩ := atI_rp a1 hi
    exact .inl ⟨a, xs, i, u, rfl, rfl, SqL.of (s _ _ h1), hu, k _ G H _ Gro.refl s ru hR⟩
  | @tup a xs ds h1 a1 =>
    obtain ⟨u, hu, ru⟩ := atI_rp a1 hi
    exact .inr (.inl ⟨a, xs, i, u, rfl, rfl, SqT.of (s _ _ h1), hu, k _ G H _ Gro.refl s ru hR⟩)
  | str z0 =>
    have hi : (atI z0.cps.toList i).map (fun c => PyData.str ⟨#[c]⟩) = some z := hi
    cases q : atI z0.cps.toList i with
    | none => rw [q] at hi; cases hi
    | some c =>
      rw [q] at hi
      cases hi
      exact .inr (.inr ⟨z0, i, c, rfl, rfl, hz, q, k _ G H _ Gro.refl s (.str _) hR⟩)
  | _ => cases hi
section
variable {X : Cx} {W : WX} {pos : Pos} {a b c : Expr} {da db dc : DE}
theorem q_ix (ha : QE X W a da) (hb : QE X W b db) (hs : PlainIx b := by exact fun _ _ => rfl) : QE X W (.Subscript a b pos) (dOp fIx da db) := pe_imp (pe_ix ix_seq ha hb hs) fun _ _ _ => lift_op ix_ok
theorem q_add (ha : QE X W a da) (hb : QE X W b db) : QE X W (.BinOp a .Add b pos) (dOp fAdd da db) := q_op op_plus plus_ok ha hb
theorem q_sub (ha : QE X W a da) (hb : QE X W b db) : QE X W (.BinOp a .Sub b pos) (dOp fSub da db) := q_op op_sub (ii0_ok fun _ _ _ => .int _) ha hb
theorem q_mul (ha : QE X W a da) (hb : QE X W b db) : QE X W (.BinOp a .Mult b pos) (dOp fMul da db) := q_op op_mul (ii_ok fun _ _ _ => .int _) ha hb
theorem q_div (ha : QE X W a da) (hb : QE X W b db) : QE X W (.BinOp a .FloorDiv b pos) (dOp fDiv da db) := q_op op_fdiv (ii_ok fun _ _ _ => .int _) ha hb
theorem q_mod (ha : QE X W a da) (hb : QE X W b db) : QE X W (.BinOp a .Mod b pos) (dOp fMod da db) := q_op op_mod (ii_ok fun _ _ _ => .int _) ha hb
theorem q_pow (ha : QE X W a da) (hb : QE X W b db) : QE X W (.BinOp a .Pow b pos) (dOp fPow da db) := q_op op_pow (ii_ok fun _ _ _ => .int _) ha hb
/-- -a -/
def dNeg (da : DE) : DE := fun E R Xn => da E (fun x M => ∃ i, x = .int i ∧ R (.int (-i)) M) Xn
theorem q_neg (ha : QE X W a da) : QE X W (.UnaryOp .USub a pos) (dNeg da) := pe_imp (pe_un un_neg ha) fun σ H Q ⟨P, R, Xn, S, h, k, kx⟩ =>
  ⟨P, _, Xn, S, h, fun v G1 H1 x e1 S1 r1 ⟨i, ei, hR⟩ => by
    subst ei
    cases r1
    exact ⟨i, rfl, k _ G1 H1 _ e1 S1 (.int _) hR⟩, kx⟩
end
/-! comparisons by their sign: as a value, as a test -/
structure CmpOk (X : Cx) (op : CmpOp) (f : F2) : Prop where
  ok : ∃ r, OpR X (compareOp op) r ∧ R2Ok X.K r f
section
variable {X : Cx} {W : WX} {pos : Pos} {a b c : Expr} {da db dc : DE} {op op' : CmpOp} {f g : F2}
theorem c_lt : CmpOk X .Lt fLt := ⟨_, op_lt, ii0_ok fun _ _ _ => .bl _⟩
theorem c_le : CmpOk X .LtE fLe := ⟨_, op_le, ii0_ok fun _ _ _ => .bl _⟩
theorem c_gt : CmpOk X .Gt fGt := ⟨_, op_gt, ii0_ok fun _ _ _ => .bl _⟩
theorem c_ge : CmpOk X .GtE fGe := ⟨_, op_ge, ii0_ok fun _ _ _ => .bl _⟩
theorem c_eq (hu : X.A.units + 65 < cLine) : CmpOk X .Eq fEq := ⟨_, op_eqD (by omega), eq_ok⟩
theorem c_ne (hu : X.A.units + 65 < cLine) : CmpOk X .NotEq fNe := ⟨_, op_neD (by omega), ne_ok⟩
theorem c_in (hu : X.A.units + 65 < cLine) : CmpOk X .In (fIn false) := ⟨_, op_inA hu, in_ok⟩
theorem c_notIn (hu : X.A.units + 65 < cLine) : CmpOk X .NotIn (fIn true) := ⟨_, op_notInA hu, notIn_ok⟩
theorem c_isN : CmpOk X .Is fIsN := ⟨_, op_isN', isN_ok⟩
theorem c_notN : CmpOk X .IsNot fNotN := ⟨_, op_notN', notN_ok⟩
theorem q_c1 (h : CmpOk X op f) (ha : QE X W a da) (hb : QE X W b db) (hm : behindInMarks op b = false := by first | exact nomark _ | rfl) : QE X W (.Compare a [op] [b] pos) (dOp f da db) := by
  obtain ⟨r, ho, hs⟩ := h.ok
  exact q_cmp ho hs hm ha hb
theorem t_c1 (h : CmpOk X op f) (ha : QE X W a da) (hb : QE X W b db) (hm : behindInMarks op b = false := by first | exact nomark _ | rfl) : QT X W (.Compare a [op] [b] pos) (dTB (dOp f da db)) := by
  obtain ⟨r, ho, hs⟩ := h.ok
  exact t_cmp ho hs hm ha hb
theorem q_c2 (h : CmpOk X op f) (h' : CmpOk X op' g) (ha : QE X W a da) (hb : QE X W b db) (hc : QE X W c dc) (hm : lastMarks [op, op'] [b, c] = false := by with_unfolding_all rfl) : QE X W (.Compare a [op, op'] [b, c] pos) (dChain f g da db dc) := by
  obtain ⟨r, ho, hs⟩ := h.ok
  obtain ⟨r', ho', hs'⟩ := h'.ok
  exact q_chain ho ho' hs hs' ha hb hc hm
theorem t_c2 (h : CmpOk X op f) (h' : CmpOk X op' g) (ha : QE X W a da) (hb : QE X W b db) (hc : QE X W c dc) (hm : lastMarks [op, op'] [b, c] = false := by with_unfolding_all rfl) : QT X W (.Compare a [op, op'] [b, c] pos) (dTB (dChain f g da db dc)) := by
  obtain ⟨r, ho, hs⟩ := h.ok
  obtain ⟨r', ho', hs'⟩ := h'.ok
  exact t_chain ho ho' hs hs' ha hb hc hm
end

/-! ### and, or, not, if else -/
def dAndT (t u : DT) : DT := fun E R Xn => t E (fun c M => (c = true → u E R Xn M) ∧ (c = false → R false M)) Xn
def dOrT (t u : DT) : DT := fun E R Xn => t E (fun c M => (c = false → u E R Xn M) ∧ (c = true → R true M)) Xn
def dNotT (t : DT) : DT := fun E R Xn => t E (fun c => R (!c)) Xn
def dAndV (a b : DE) : DE := fun E R Xn => a E (fun x M => ∃ c, x = .bool c ∧ (c = true → b E R Xn M) ∧ (c = false → R (.bool false) M)) Xn
def dOrV (a b : DE) : DE := fun E R Xn => a E (fun x M => ∃ c, x = .bool c ∧ (c = false → b E R Xn M) ∧ (c = true → R (.bool true) M)) Xn
def dNotV (a : DE) : DE := fun E R Xn => a E (fun x M => ∃ c, x = .bool c ∧ R (.bool (!c)) M) Xn
def dIf (t : DT) (a b : DE) : DE := fun E R Xn => t E (fun c M => (c = true → a E R Xn M) ∧ (c = false → b E R Xn M)) Xn
section
variable {X : Cx} {W : WX} {pos : Pos} {a b c : Expr} {rest : List Expr} {da db dc : DE} {dt du : DT}
theorem tw_and1 (ha : QT X W a dt) : QW X W (.BoolOp .And [a] pos) dt := pw_and1 ha
theorem tw_or1 (ha : QT X W a dt) : QW X W (.BoolOp .Or [a] pos) dt := pw_or1 ha
theorem tw_and (ha : QT X W a dt) (hb : QW X W (.BoolOp .And (b :: rest) pos) du) : QW X W (.BoolOp .And (a :: b :: rest) pos) (dAndT dt du) := pw_imp (pw_and ha hb) fun σ H Q ⟨P, R, Xn, S, h, k, kx⟩ =>
  ⟨P, _, Xn, S, h, fun c G1 H1 e1 S1 ⟨h1, h2⟩ => by
    cases c with
    | false => exact k false G1 H1 e1 S1 (h2 rfl)
    | true => exact ⟨P.go G1, R, Xn, S1, h1 rfl, fun b G2 H2 e2 S2 q => k b G2 H2 (e1.trans e2) S2 q, kx⟩, kx⟩
theorem tw_or (ha : QT X W a dt) (hb : QW X W (.BoolOp .Or (b :: rest) pos) du) : QW X W (.BoolOp .Or (a :: b :: rest) pos) (dOrT dt du) := pw_imp (pw_or ha hb) fun σ H Q ⟨P, R, Xn, S, h, k, kx⟩ =>
  ⟨P, _, Xn, S, h, fun c G1 H1 e1 S1 ⟨h1, h2⟩ => by
    cases c with
    | true => exact k true G1 H1 e1 S1 (h2 rfl)
    | false => exact ⟨P.go G1, R, Xn, S1, h1 rfl, fun b G2 H2 e2 S2 q => k b G2 H2 (e1.trans e2) S2 q, kx⟩, kx⟩
theorem t_w {e : Expr} (h : QW X W e dt) : QT X W e dt := PW.pt h
theorem t_not (ha : QT X W a dt) : QT X W (.UnaryOp .Not a pos) (dNotT dt) := pt_imp (pt_not ha) fun σ H Q ⟨P, R, Xn, S, h, k, kx⟩ =>
  ⟨P, _, Xn, S, h, fun c G1 H1 e1 S1 h1 => k (!c) G1 H1 e1 S1 h1, kx⟩
theorem q_one {op} (ha : QE X W a da) : QE X W (.BoolOp op [a] pos) da := pe_one ha
theorem q_and (ha : QE X W a da) (hb : QE X W (.BoolOp .And (b :: rest) pos) db) : QE X W (.BoolOp .And (a :: b :: rest) pos) (dAndV da db) := pe_imp (pe_and ha hb) fun σ H Q ⟨P, R, Xn, S, h, k, kx⟩ =>
  ⟨P, _, Xn, S, h, fun v G1 H1 x e1 S1 r1 ⟨c, ec, h1, h2⟩ => by
    subst ec
    cases r1
    refine ⟨c, rfl, ?_⟩
    cases c with
    | false => exact k _ G1 H1 _ e1 S1 (.bl false) (h2 rfl)
    | true => exact ⟨P.go G1, R, Xn, S1, h1 rfl, fun b G2 H2 d e2 S2 r2 q => k b G2 H2 d (e1.trans e2) S2 r2 q, kx⟩, kx⟩
theorem q_or (ha : QE X W a da) (hb : QE X W (.BoolOp .Or (b :: rest) pos) db) : QE X W (.BoolOp .Or (a :: b :: rest) pos) (dOrV da db) := pe_imp (pe_or ha hb) fun σ H Q ⟨P, R, Xn, S, h, k, kx⟩ =>
  ⟨P, _, Xn, S, h, fun v G1 H1 x e1 S1 r1 ⟨c, ec, h1, h2⟩ => by
    subst ec
    cases r1
    refine ⟨c, rfl, ?_⟩
    cases c with
    | true => exact k _ G1 H1 _ e1 S1 (.bl true) (h2 rfl)
    | false => exact ⟨P.go G1, R, Xn, S1, h1 rfl, fun b G2 H2 d e2 S2 r2 q => k b G2 H2 d (e1.trans e2) S2 r2 q, kx⟩, kx⟩
theorem q_not (ha : QE X W a da) : QE X W (.UnaryOp .Not a pos) (dNotV da) := pe_imp (pe_not ha) fun σ H Q ⟨P, R, Xn, S, h, k, kx⟩ =>
  ⟨P, _, Xn, S, h, fun v G1 H1 x e1 S1 r1 ⟨c, ec, h1⟩ => by
    subst ec
    cases r1
    exact ⟨c, rfl, k _ G1 H1 _ e1 S1 (.bl _) h1⟩, kx⟩
theorem q_if (ht : QT X W c dt) (ha : QE X W a da) (hb : QE X W b db) : QE X W (.IfExp c a b pos) (dIf dt da db) := pe_imp (pe_ifExp ht ha hb) fun σ H Q ⟨P, R, Xn, S, h, k, kx⟩ =>
  ⟨P, _, Xn, S, h, fun c G1 H1 e1 S1 ⟨h1, h2⟩ => by
    cases c with
    | false => exact ⟨P.go G1, R, Xn, S1, h2 rfl, fun b G2 H2 d e2 S2 r2 q => k b G2 H2 d (e1.trans e2) S2 r2 q, kx⟩
    | true => exact ⟨P.go G1, R, Xn, S1, h1 rfl, fun b G2 H2 d e2 S2 r2 q => k b G2 H2 d (e1.trans e2) S2 r2 q, kx⟩, kx⟩
end
end Wx

namespace Wx
open PySem PySem.Spec PyProof.Rows L2

/-! ### arguments -/
def dNil : DA := fun _ R _ M => R [] M
def dCons (de : DE) (dr : DA) : DA := fun E R Xn => de E (fun d => dr E (fun as M => R (.dat d :: as) M) Xn) Xn
def dBoxA (i : Nat) (dr : DA) : DA := fun E R Xn M => E[i]? = some .box ∧ dr E (fun as M => R (.box :: as) M) Xn M
def dRawA (i : Nat) (dr : DA) : DA := fun E R Xn M => ∃ v, E[i]? = some (.raw v) ∧ dr E (fun as M => R (.raw v :: as) M) Xn M
section
variable {X : Cx} {W : WX} {pos : Pos} {e : Expr} {es : List Expr} {de : DE} {dr : DA}
theorem a_nil : QA X W [] dNil := pa_imp pa_nil fun σ H Q ⟨P, R, Xn, S, h, k, kx⟩ => k [] P.G H [] Ext.refl S .nil h
theorem a_cons (he : QE X W e de) (hr : QA X W es dr) (hs : starEach (e :: es) X.env = (false, eval e X.env) :: starEach es X.env := by rfl) : QA X W (e :: es) (dCons de dr) := pa_imp (pa_cons he hr hs) fun σ H Q ⟨P, R, Xn, S, h, k, kx⟩ =>
  ⟨P, _, Xn, S, h, fun v G1 H1 d e1 S1 r1 h1 => ⟨P.go G1, _, Xn, S1, h1, fun vs G2 H2 as e2 S2 r2 h2 => k (v :: vs) G2 H2 (.dat d :: as) (e1.trans e2) S2 (.cons (r1.up e2.g) r2) h2, kx⟩, kx⟩
theorem a_box (i : Nat) {x : Str} {p : Pos} (he : PE X (.Name x p) (tVar i)) (hr : QA X W es dr) (hs : starEach (.Name x p :: es) X.env = (false, eval (.Name x p) X.env) :: starEach es X.env := by rfl) : QA X W (.Name x p :: es) (dBoxA i dr) :=
  pa_imp (pa_cons he hr hs) fun σ H Q ⟨P, R, Xn, S, ⟨hb, h⟩, k, kx⟩ => by
    obtain ⟨z, hz, hσ⟩ := S.e i _ hb
    exact ⟨_, hσ, P, _, Xn, S, h, fun vs G2 H2 as e2 S2 r2 h2 => k _ G2 H2 (.box :: as) e2 S2 (.cons ⟨z, hz, rfl⟩ r2) h2, kx⟩
theorem a_raw (i : Nat) {x : Str} {p : Pos} (he : PE X (.Name x p) (tVar i)) (hr : QA X W es dr) (hs : starEach (.Name x p :: es) X.env = (false, eval (.Name x p) X.env) :: starEach es X.env := by rfl) : QA X W (.Name x p :: es) (dRawA i dr) :=
  pa_imp (pa_cons he hr hs) fun σ H Q ⟨P, R, Xn, S, ⟨u, hb, h⟩, k, kx⟩ => by
    have hσ := S.e i _ hb
    exact ⟨_, hσ, P, _, Xn, S, h, fun vs G2 H2 as e2 S2 r2 h2 => k _ G2 H2 (.raw u :: as) e2 S2 (.cons rfl r2) h2, kx⟩
end
theorem dats_inj {ds : List PyData} : ∀ {es : List PyData}, ds.map En.dat = es.map En.dat → ds = es := by
  induction ds with
  | nil => intro es h; cases es with
    | nil => rfl
    | cons _ _ => cases h
  | cons d ds ih => intro es h; cases es with
    | nil => cases h
    | cons e es =>
      injection h with h1 h2
      injection h1 with h1
      rw [h1, ih h2]

/-! ### displays -/
def dTup (da : DA) : DE := fun E R Xn => da E (fun as M => ∃ ds, as = ds.map .dat ∧ ds.length ≤ sizeLine ∧ R (.tuple ds) M) Xn
def dLst (da : DA) : DF := fun E R Xn => da E (fun as M => ∃ ds, as = ds.map .dat ∧ ds.length ≤ sizeLine ∧ R ds M) Xn
/-- a new list, frozen at once -/
def dFz (df : DF) : DE := fun E R Xn => df E (fun ds M => R (.list ds) M) Xn
section
variable {X : Cx} {W : WX} {pos : Pos} {e : Expr} {es : List Expr} {da : DA} {df : DF}
theorem q_tup {k} (ha : QA X W es da) : QE X W (.Tuple es k pos) (dTup da) := pe_imp (pe_tup ha) fun σ H Q ⟨P, R, Xn, S, h, k, kx⟩ =>
  ⟨P, _, Xn, S, h, fun vs G1 H1 as e1 S1 r1 ⟨ds, ea, hl, hR⟩ => by
    subst ea
    have rr := r1.dats
    refine ⟨by rw [rr.length]; exact hl, fun p hp => ?_⟩
    have en := Gro.new (o := .tup vs) S1.w.s hp
    exact k _ ⟨_, G1.M⟩ _ _ (e1.trans en.any) (S1.pure en (same_new S1.w.s)) (.tup upd_same (rr.up en.g)) hR, kx⟩
theorem f_lst (ha : QA X W es da) : QF X W (.List es pos) (dLst da) := pe_imp (pe_lst ha) fun σ H Q ⟨P, R, Xn, S, h, k, kx⟩ =>
  ⟨P, _, Xn, S, h, fun vs G1 H1 as e1 S1 r1 ⟨ds, ea, hl, hR⟩ => by
    subst ea
    have rr := r1.dats
    refine ⟨by rw [rr.length]; exact hl, fun p hp => ?_⟩
    have en : Gro G1.G H1 G1.G (upd H1 p (.lst vs)) := Gro.own hp
    exact k p vs G1 _ ds (e1.trans en.any) (S1.pure en (same_own S1.w.s hp)) (e1.none_of hp) (S1.w.s.free hp) (S1.w.m_none hp) upd_same rr hR, kx⟩
theorem SR.freeze {K : PySem.W.Frag} {bx : Option Bx} {G0 G G' : Gm} {H0 H H' : Hp} {σ : L2.St} {E : List En} (s : SR K bx G0 H0 G' H' σ E) (e : Ext bx G H G' H') (s0 : SR K bx G0 H0 G H σ E) {p : Addr} {o : HO} (hp : H p = none) (gp : G' p = none) (mp : G'.M p = none) (hx : H' p = some o) :
    Ext bx G H (G'.up p o) H' ∧ SR K bx G0 H0 (G'.up p o) H' σ E := by
  have e2 := e.freeze (o := o) hp gp
  have gg : Same G'.G (upd G'.G p o) := fun a u q => by rw [upd_ne (ne_of_none q gp)]; exact q
  refine ⟨e2, s0.ext e2 ⟨same_freeze s.w.s hx, fun z hz => ?_, fun a ob q => ?_⟩⟩
  · obtain ⟨b1, b2⟩ := s.w.b z hz
    have nz : z.b ≠ p := s0.w.off hp z hz
    refine ⟨?_, b2.up gg rfl⟩
    show upd G'.G p o z.b = none
    rw [upd_ne nz]; exact b1
  · obtain ⟨c1, c2, c3⟩ := s.w.c a ob q
    refine ⟨c1.up gg rfl, ?_, c3⟩
    show upd G'.G p o a = none
    have q : G'.M a = some ob := q
    rw [upd_ne fun e => by rw [e, mp] at q; cases q]; exact c2
theorem q_fz (h : QF X W e df) : QE X W e (dFz df) := pe_imp h fun σ H Q ⟨P, R, Xn, S, h, k, kx⟩ =>
  ⟨P, _, Xn, S, h, fun p xs G1 H1 ds e1 S1 hp gp mp hx rr hR => by
    obtain ⟨e2, S2⟩ := S1.freeze e1 S hp gp mp hx
    have gg : Same G1.G (upd G1.G p (.lst xs)) := fun a u q => by rw [upd_ne (ne_of_none q gp)]; exact q
    exact k _ _ _ _ e2 S2 (.lst upd_same (rr.up gg)) hR, kx⟩
end

/-! ### built-ins by their values -/
abbrev FC := List PyData → (PyData → Prop) → Prop
def RCOk (K : PySem.W.Frag) (r : List V → Hp → VK → Prop) (f : FC) : Prop := ∀ (G H : Hp) (vs : List V) (ds : List PyData) (R : PyData → Prop) (Q : VK), Same G H → RpAll K G vs ds → f ds R →
  (∀ u G' H' d, Gro G H G' H' → Same G' H' → Rp K G' u d → R d → Q u H') → r vs H Q
def dCB (f : FC) (da : DA) : DE := fun E R Xn => da E (fun as M => ∃ ds, as = ds.map .dat ∧ f ds fun d => R d M) Xn
abbrev FCF := List PyData → (List PyData → Prop) → Prop
def RCFOk (K : PySem.W.Frag) (r : List V → Hp → VK → Prop) (f : FCF) : Prop := ∀ (G H : Hp) (vs : List V) (ds : List PyData) (R : List PyData → Prop) (Q : VK), Same G H → RpAll K G vs ds → f ds R →
  (∀ p xs es, H p = none → RpAll K G xs es → R es → Q (.ref p) (upd H p (.lst xs))) → r vs H Q
def dCBF (f : FCF) (da : DA) : DF := fun E R Xn => da E (fun as M => ∃ ds, as = ds.map .dat ∧ f ds fun d => R d M) Xn
section
variable {X : Cx} {W : WX} {pos p : Pos} {e : Expr} {es : List Expr} {da : DA} {df : DF} {x : Str} {id T : String} {r : List V → Hp → VK → Prop} {f : FC} {g : FCF}
theorem lift_cb {K : PySem.W.Frag} (hs : RCOk K r f) {σ : L2.St} {H : Hp} {Q : VK} (h : liftE K W (dCB f da) σ H Q) : tCB r (liftA K W da) σ H Q := by
  obtain ⟨P, R, Xn, S, h, k, kx⟩ := h
  refine ⟨P, _, Xn, S, h, fun vs G1 H1 as e1 S1 r1 ⟨ds, ea, hR⟩ => ?_, kx⟩
  subst ea
  exact hs G1.G H1 vs ds (fun d => R d G1.M) Q S1.w.s r1.dats hR fun u G' H' d e2 s2 r2 h2 => k u ⟨G', G1.M⟩ H' d (e1.trans e2.any) (S1.pure e2 s2) r2 h2
theorem lift_cbf {K : PySem.W.Frag} (hs : RCFOk K r g) {σ : L2.St} {H : Hp} {Q : VK} (h : liftF K W (dCBF g da) σ H Q) : tCB r (liftA K W da) σ H Q := by
  obtain ⟨P, R, Xn, S, h, k, kx⟩ := h
  refine ⟨P, _, Xn, S, h, fun vs G1 H1 as e1 S1 r1 ⟨ds, ea, hR⟩ => ?_, kx⟩
  subst ea
  refine hs G1.G H1 vs ds (fun d => R d G1.M) Q S1.w.s r1.dats hR fun p xs es hp rr hR => ?_
  have en : Gro G1.G H1 G1.G (upd H1 p (.lst xs)) := Gro.own hp
  exact k p xs G1 _ es (e1.trans en.any) (S1.pure en (same_own S1.w.s hp)) (e1.none_of hp) (S1.w.s.free hp) (S1.w.m_none hp) upd_same rr hR
/-- a built-in function, a built-in type, called -/
theorem q_callB (hc : CallR X (.builtin id) r) (hs : RCOk X.K r f) (hm : X.mg x = none) (ha : QA X W (e :: es) da) (hg : Gl X x := by rfl) (hv : bootBuiltins x = some (.builtin id) := by decide +kernel) (hn : x ≠ "__name__" := by decide) (hdb : (x == ("__debug__" : Str)) = false := by decide)
    (he : starEach (e :: es) X.env = (false, eval e X.env) :: starEach es X.env := by rfl) (hpl : (backTo pos (starEach es X.env)).any (·.1) = false := by rfl) : QE X W (.Call (.Name x p) (e :: es) [] pos) (dCB f da) :=
  pe_imp (pe_callB hc hg hm hv ha hn hdb he hpl) fun _ _ _ => lift_cb hs
theorem q_callT (hc : CallR X (.type T) r) (hs : RCOk X.K r f) (hm : X.mg x = none) (ha : QA X W (e :: es) da) (hg : Gl X x := by rfl) (hv : bootBuiltins x = some (.type T) := by decide +kernel) (hn : x ≠ "__name__" := by decide) (hdb : (x == ("__debug__" : Str)) = false := by decide)
    (he : starEach (e :: es) X.env = (false, eval e X.env) :: starEach es X.env := by rfl) (hpl : (backTo pos (starEach es X.env)).any (·.1) = false := by rfl) : QE X W (.Call (.Name x p) (e :: es) [] pos) (dCB f da) :=
  pe_imp (pe_callTy hc hg hm hv ha hn hdb he hpl) fun _ _ _ => lift_cb hs
theorem f_callB (hc : CallR X (.builtin id) r) (hs : RCFOk X.K r g) (hm : X.mg x = none) (ha : QA X W (e :: es) da) (hg : Gl X x := by rfl) (hv : bootBuiltins x = some (.builtin id) := by decide +kernel) (hn : x ≠ "__name__" := by decide) (hdb : (x == ("__debug__" : Str)) = false := by decide)
    (he : starEach (e :: es) X.env = (false, eval e X.env) :: starEach es X.env := by rfl) (hpl : (backTo pos (starEach es X.env)).any (·.1) = false := by rfl) : QF X W (.Call (.Name x p) (e :: es) [] pos) (dCBF g da) :=
  pe_imp (pe_callB hc hg hm hv ha hn hdb he hpl) fun _ _ _ => lift_cbf hs
theorem f_callT (hc : CallR X (.type T) r) (hs : RCFOk X.K r g) (hm : X.mg x = none) (ha : QA X W (e :: es) da) (hg : Gl X x := by rfl) (hv : bootBuiltins x = some (.type T) := by decide +kernel) (hn : x ≠ "__name__" := by decide) (hdb : (x == ("__debug__" : Str)) = false := by decide)
    (he : starEach (e :: es) X.env = (false, eval e X.env) :: starEach es X.env := by rfl) (hpl : (backTo pos (starEach es X.env)).any (·.1) = false := by rfl) : QF X W (.Call (.Name x p) (e :: es) [] pos) (dCBF g da) :=
  pe_imp (pe_callTy hc hg hm hv ha hn hdb he hpl) fun _ _ _ => lift_cbf hs
end
/-! len -/
def lenD : PyData → Option Nat
  | .list ds => some ds.length
  | .tuple ds => some ds.length
  | .str z => some z.length
  | _ => none
def fLen : FC := fun ds R => ∃ d n, ds = [d] ∧ lenD d = some n ∧ small d ∧ R (.int n)
theorem len_ok {K : PySem.W.Frag} : RCOk K (fun xs H Q => ∃ x n, xs = [x] ∧ LenV K x H n ∧ Q (.int n) H) fLen := fun G H vs ds R Q s rr ⟨d, n, e, hl, hz, hR⟩ k => by
  subst e
  cases rr with
  | cons r1 r0 =>
    cases r0
    cases r1 with
    | @lst a xs es h1 a1 =>
      cases hl
      exact ⟨.ref a, xs.length, rfl, .inl ⟨xs, SqL.of (s _ _ h1), rfl⟩, k _ G H _ Gro.refl s (.int _) (by rw [a1.length]; exact hR)⟩
    | @tup a xs es h1 a1 =>
      cases hl
      exact ⟨.ref a, xs.length, rfl, .inr ⟨xs, SqT.of (s _ _ h1), rfl⟩, k _ G H _ Gro.refl s (.int _) (by rw [a1.length]; exact hR)⟩
    | str z =>
      cases hl
      exact ⟨.str z, z.length, rfl, ⟨hz, rfl⟩, k _ G H _ Gro.refl s (.int _) hR⟩
    | _ => cases hl
/-! list(x): a new list; tuple(x) -/
def itemsD : PyData → Option (List PyData)
  | .list ds => some ds
  | .tuple ds => some ds
  | _ => none
def fList : FCF := fun ds R => ∃ d es, ds = [d] ∧ itemsD d = some es ∧ R es
theorem list_ok {K : PySem.W.Frag} : RCFOk K (fun xs H Q => ∃ p ys, xs = [.ref p] ∧ (SqL K H p ys ∨ SqT K H p ys) ∧ ∀ l, H l = none → Q (.ref l) (upd H l (.lst ys))) fList := fun G H vs ds R Q s rr ⟨d, es, e, hi, hR⟩ k => by
  subst e
  cases rr with
  | cons r1 r0 =>
    cases r0
    cases r1 with
    | @lst a xs es h1 a1 =>
      cases hi
      exact ⟨a, xs, rfl, .inl (SqL.of (s _ _ h1)), fun l hl => k l xs _ hl a1 hR⟩
    | @tup a xs es h1 a1 =>
      cases hi
      exact ⟨a, xs, rfl, .inr (SqT.of (s _ _ h1)), fun l hl => k l xs _ hl a1 hR⟩
    | _ => cases hi
def fTuple : FC := fun ds R => ∃ d es, ds = [d] ∧ itemsD d = some es ∧ R (.tuple es)
theorem tuple_ok {K : PySem.W.Frag} : RCOk K (fun xs H Q => ∃ p ys, xs = [.ref p] ∧ ((SqL K H p ys ∧ ∀ l, H l = none → Q (.ref l) (upd H l (.tup ys))) ∨ (SqT K H p ys ∧ Q (.ref p) H))) fTuple := fun G H vs ds R Q s rr ⟨d, es, e, hi, hR⟩ k => by
  subst e
  cases rr with
  | cons r1 r0 =>
    cases r0
    cases r1 with
    | @lst a xs es h1 a1 =>
      cases hi
      refine ⟨a, xs, rfl, .inl ⟨SqL.of (s _ _ h1), fun l hl => ?_⟩⟩
      have en := Gro.new (o := .tup xs) s hl
      exact k _ _ _ _ en (same_new s) (.tup upd_same (a1.up en.g)) hR
    | @tup a xs es h1 a1 =>
      cases hi
      exact ⟨a, xs, rfl, .inr ⟨SqT.of (s _ _ h1), k _ G H _ Gro.refl s (.tup h1 a1) hR⟩⟩
    | _ => cases hi
/-! all, any -/
def fAll : FC := fun ds R => ∃ bs : List Bool, ds = [.list (bs.map .bool)] ∧ R (.bool (bs.all id))
def fAny : FC := fun ds R => ∃ bs : List Bool, ds = [.list (bs.map .bool)] ∧ R (.bool (bs.any id))
theorem all_ok {K : PySem.W.Frag} : RCOk K (rAll K) fAll := fun G H vs ds R Q s rr ⟨bs, e, hR⟩ k => by
  subst e
  cases rr with
  | cons r1 r0 =>
    cases r0
    cases r1 with
    | @lst a xs es h1 a1 =>
      have e := a1.bls
      subst e
      exact ⟨a, bs, rfl, SqL.of (s _ _ h1), k _ G H _ Gro.refl s (.bl _) hR⟩
theorem any_ok {K : PySem.W.Frag} : RCOk K (rAny K) fAny := fun G H vs ds R Q s rr ⟨bs, e, hR⟩ k => by
  subst e
  cases rr with
  | cons r1 r0 =>
    cases r0
    cases r1 with
    | @lst a xs es h1 a1 =>
      have e := a1.bls
      subst e
      exact ⟨a, bs, rfl, SqL.of (s _ _ h1), k _ G H _ Gro.refl s (.bl _) hR⟩
/-! int, str, min, max -/
def fInt : FC := fun ds R => (∃ i, ds = [.int i] ∧ R (.int i)) ∨ (∃ b, ds = [.bool b] ∧ R (.int (if b then 1 else 0))) ∨ ∃ a n, ds = [.str a] ∧ PySem.intText? a = some n ∧ a.length ≤ 640 ∧ R (.int n)
def rInt : List V → Hp → VK → Prop := fun xs H Q => ((∃ i, xs = [.int i] ∧ Q (.int i) H) ∨ ∃ k, xs = [.bl k] ∧ Q (.int (if k then 1 else 0)) H) ∨ ∃ a n, xs = [.str a] ∧ PySem.intText? a = some n ∧ a.length ≤ 640 ∧ Q (.int n) H
theorem call_intA {X : Cx} : CallR X (.type "int") rInt := CallR.or call_int1 call_int_str
theorem int_ok {K : PySem.W.Frag} : RCOk K rInt fInt := fun G H vs ds R Q s rr h k => by
  rcases h with ⟨i, e, hR⟩ | ⟨b, e, hR⟩ | ⟨a, n, e, h1, h2, hR⟩
  all_goals
    subst e
    obtain _ | ⟨r1, r0⟩ := rr
    cases r0
    cases r1
  · exact .inl (.inl ⟨i, rfl, k _ G H _ Gro.refl s (.int _) hR⟩)
  · exact .inl (.inr ⟨b, rfl, k _ G H _ Gro.refl s (.int _) hR⟩)
  · exact .inr ⟨a, n, rfl, h1, h2, k _ G H _ Gro.refl s (.int _) hR⟩
def fStr : FC := fun ds R => ∃ i : Int, ds = [.int i] ∧ i.natAbs.log2 < 1920 ∧ R (.str (toString i))
theorem str_ok {K : PySem.W.Frag} : RCOk K (fun xs H Q => ∃ i, xs = [.int i] ∧ i.natAbs.log2 < 1920 ∧ Q (.str (toString i)) H) fStr := fun G H vs ds R Q s rr ⟨i, e, h1, hR⟩ k => by
  subst e
  cases rr with
  | cons r1 r0 =>
    cases r0
    cases r1
    exact ⟨i, rfl, h1, k _ G H _ Gro.refl s (.str _) hR⟩
def fMin2 : FC := fun ds R => ∃ i j : Int, ds = [.int i, .int j] ∧ R (.int (if j < i then j else i))
def fMax2 : FC := fun ds R => ∃ i j : Int, ds = [.int i, .int j] ∧ R (.int (if j > i then j else i))
theorem min2_ok {K : PySem.W.Frag} : RCOk K (fun xs H Q => ∃ i j, xs = [.int i, .int j] ∧ Q (.int (if j < i then j else i)) H) fMin2 := fun G H vs ds R Q s rr ⟨i, j, e, hR⟩ k => by
  subst e
  cases rr with
  | cons r1 r0 =>
    cases r0 with
    | cons r2 r0 =>
      cases r0
      cases r1
      cases r2
      exact ⟨i, j, rfl, k _ G H _ Gro.refl s (.int _) hR⟩
theorem max2_ok {K : PySem.W.Frag} : RCOk K (fun xs H Q => ∃ i j, xs = [.int i, .int j] ∧ Q (.int (if j > i then j else i)) H) fMax2 := fun G H vs ds R Q s rr ⟨i, j, e, hR⟩ k => by
  subst e
  cases rr with
  | cons r1 r0 =>
    cases r0 with
    | cons r2 r0 =>
      cases r0
      cases r1
      cases r2
      exact ⟨i, j, rfl, k _ G H _ Gro.refl s (.int _) hR⟩
/-! sorted -/
def fSorted : FCF := fun ds R => (∃ ns : List Int, ds = [.list (ns.map .int)] ∧ ns.length < 64 ∧ ∀ ms : List Int, ms.Perm ns → ms.Pairwise (· ≤ ·) → R (ms.map .int)) ∨
  ∃ ns : List Str, ds = [.list (ns.map .str)] ∧ ns.length < 64 ∧ ∀ ms : List Str, ms.Perm ns → sortedS ms = true → R (ms.map .str)
def rSortedA (K : PySem.W.Frag) : List V → Hp → VK → Prop := fun vs H Q => rSorted K vs H Q ∨ rSortedS K vs H Q
theorem cr_sortedA {X : Cx} : CallR X (.builtin "sorted") (rSortedA X.K) := CallR.or cr_sorted cr_sortedS
theorem sorted_ok {K : PySem.W.Frag} : RCFOk K (rSortedA K) fSorted := fun G H vs ds R Q s rr h k => by
  rcases h with ⟨ns, e, hl, hR⟩ | ⟨ns, e, hl, hR⟩
  all_goals
    subst e
    obtain _ | ⟨r1, r0⟩ := rr
    cases r0
    obtain _ | _ | _ | _ | ⟨h1, a1⟩ := r1
  · rename_i a xs
    have e := a1.ints
    subst e
    exact .inl ⟨a, ns, rfl, SqL.of (s _ _ h1), hl, fun ms p pm so hp => k p _ _ hp (rps_ints ms) (hR ms pm so)⟩
  · rename_i a xs
    have e := a1.strs
    subst e
    exact .inr ⟨a, ns, rfl, SqL.of (s _ _ h1), hl, fun ms p pm so hp => k p _ _ hp (rps_strs ms) (hR ms pm so)⟩
end Wx

namespace Wx
open PySem PySem.Spec PyProof.Rows L2

/-! ### isinstance of data -/
def tyD : PyData → String
  | .none => "NoneType"
  | .bool _ => "bool"
  | .int _ => "int"
  | .str _ => "str"
  | .list _ => "list"
  | .tuple _ => "tuple"
  | .dict _ => "dict"
def isS (T S : String) : Bool := S == T || (T == "int" && S == "bool")
def isD (T : String) (d : PyData) : Bool := isS T (tyD d)
theorem kit_all : ∀ S ∈ ["NoneType", "bool", "int", "str", "list", "tuple", "dict"], ∀ T ∈ ["int", "bool", "str", "list", "tuple"], kitB S T = some (isS T S) := by decide +kernel
theorem kit_data {K : PySem.W.Frag} {T : String} (hT : T ∈ ["int", "bool", "str", "list", "tuple"]) (d : PyData) : PySem.W.kitOne K (.type (tyD d)) (.type T) = some (isD T d) :=
  kit_ty (kit_all (tyD d) (by cases d <;> simp [tyD]) T hT)
def noDct : PyData → Bool
  | .dict _ => false
  | _ => true
theorem rp_ty {K : PySem.W.Frag} {G H : Hp} {v : V} {d : PyData} (s : Same G H) (nd : noDct d = true) (r : Rp K G v d) : TyX K H v (.type (tyD d)) := by
  cases r with
  | non => exact .base .non
  | bl b => exact .base (.bl b)
  | int i => exact .base (.int i)
  | str x => exact .base (.str x)
  | lst h _ => exact .base (.lst (s _ _ h))
  | tup h _ => exact .base (.tup (s _ _ h))
  | _ => cases nd
def dIsi (T : String) (de : DE) : DE := fun E R Xn => de E (fun d M => noDct d = true ∧ R (.bool (isD T d)) M) Xn
section
variable {X : Cx} {W : WX} {pos p p2 : Pos} {a : Expr} {da : DE} {T : String} {x : Str}
theorem q_isi (hT : T ∈ ["int", "bool", "str", "list", "tuple"]) (hm : X.mg "isinstance" = none) (hx : X.mg x = none) (ha : QE X W a da) (hgx : Gl X x := by rfl) (hv : bootBuiltins x = some (.type T) := by decide +kernel) (hg : Gl X "isinstance" := by rfl) (hnx : x ≠ "__name__" := by decide) (hdx : (x == ("__debug__" : Str)) = false := by decide)
    (he : starEach [a, .Name x p2] X.env = (false, eval a X.env) :: starEach [.Name x p2] X.env := by rfl) (he2 : starEach [.Name x p2] X.env = (false, eval (.Name x p2) X.env) :: starEach [] X.env := by rfl) (hpl : (backTo pos (starEach [.Name x p2] X.env)).any (·.1) = false := by rfl) :
    QE X W (.Call (.Name "isinstance" p) [a, .Name x p2] [] pos) (dIsi T da) :=
  pe_imp (pe_callB (id := "isinstance") call_isi hg hm (by decide +kernel) (pa_cons ha (pa_cons (pe_bltn (v := .ty T) (u := .type T) hgx hx hv rfl hnx hdx) pa_nil he2) he) (by decide) (by decide) he hpl) fun σ H Q ⟨P, R, Xn, S, h, k, kx⟩ =>
  ⟨P, _, Xn, S, h, fun v G1 H1 d e1 S1 r1 ⟨nd, hR⟩ => ⟨v, .ty T, .type (tyD d), .type T, isD T d, rfl, .ty T, rp_ty S1.w.s nd r1, kit_data hT d, k _ G1 H1 _ e1 S1 (.bl _) hR⟩, kx⟩
end

/-! ### slices -/
def cutD (ds : List PyData) (lo hi : Option Int) : List PyData := (ds.drop (HT.sIx ds.length 0 lo)).take (HT.sIx ds.length ds.length hi - HT.sIx ds.length 0 lo)
theorem cut_rp {K : PySem.W.Frag} {G : Hp} {xs : List V} {ds : List PyData} (r : RpAll K G xs ds) (lo hi : Option Int) : RpAll K G (cutV xs lo hi) (cutD ds lo hi) := by
  unfold cutV cutD
  rw [r.length]
  exact (r.dr _).tk _
abbrev DO := List En → (Option Int → Mu → Prop) → (Er → Mu → Prop) → Mu → Prop
def oNone : DO := fun _ R _ M => R none M
def oSome (de : DE) : DO := fun E R Xn => de E (fun d M => ∃ i, d = .int i ∧ R (some i) M) Xn
def liftO (K : PySem.W.Frag) (W : WX) (dO : DO) : TO := fun σ H Q => ∃ (P : Pt) (R : Option Int → Mu → Prop) (Xn : Er → Mu → Prop), P.ok K H σ ∧ dO P.E R Xn P.G.M ∧
  (∀ o (G' : Gm) H', Ext P.bx P.G H G' H' → (P.go G').ok K H' σ → R o G'.M → Q o H') ∧ ErTo K W P σ Xn
abbrev QO (X : Cx) (W : WX) (e : Option Expr) (dO : DO) : Prop := PO X e (liftO X.K W dO)
def dSl (f : PyData → Option Int → Option Int → (PyData → Prop) → Prop) (de : DE) (d1 d2 : DO) : DE := fun E R Xn => de E (fun d => d1 E (fun lo => d2 E (fun hi M => f d lo hi fun z => R z M) Xn) Xn) Xn
def dSlF (f : PyData → Option Int → Option Int → (List PyData → Prop) → Prop) (de : DE) (d1 d2 : DO) : DF := fun E R Xn => de E (fun d => d1 E (fun lo => d2 E (fun hi M => f d lo hi fun z => R z M) Xn) Xn) Xn
/-- a tuple's, a text's part -/
def fCut (d : PyData) (lo hi : Option Int) (R : PyData → Prop) : Prop := match d with
  | .tuple ds => R (.tuple (cutD ds lo hi))
  | .str z => z.length ≤ sizeLine ∧ R (.str (cutS z lo hi))
  | _ => False
def fCutL (d : PyData) (lo hi : Option Int) (R : List PyData → Prop) : Prop := match d with
  | .list ds => R (cutD ds lo hi)
  | _ => False
section
variable {X : Cx} {W : WX} {pos p2 : Pos} {a e : Expr} {lo hi : Option Expr} {da de : DE} {d1 d2 : DO}
theorem po_imp {e : Option Expr} {t t' : TO} (h : PO X e t) (i : ∀ σ H Q, t' σ H Q → t σ H Q) : PO X e t' := ⟨fun pins s σ H Q I q => h.run pins s σ H Q I (i σ H Q q)⟩
theorem o_none : QO X W none oNone := po_imp po_none fun σ H Q ⟨P, R, Xn, S, h, k, kx⟩ => k none P.G H Ext.refl S h
theorem o_some (h : QE X W e de) : QO X W (some e) (oSome de) := po_imp (po_some h) fun σ H Q ⟨P, R, Xn, S, h, k, kx⟩ =>
  ⟨P, _, Xn, S, h, fun v G1 H1 d e1 S1 r1 ⟨i, ei, hR⟩ => by
    subst ei
    cases r1
    exact ⟨i, rfl, k _ G1 H1 e1 S1 hR⟩, kx⟩
theorem q_cut (ha : QE X W a da) (h1 : QO X W lo d1) (h2 : QO X W hi d2) : QE X W (.Subscript a (.Slice lo hi none p2) pos) (dSl fCut da d1 d2) :=
  pe_imp (pe_slice (SlR.or sl_str sl_tupA) ha h1 h2) fun σ H Q ⟨P, R, Xn, S, h, k, kx⟩ =>
  ⟨P, _, Xn, S, h, fun v G1 H1 d e1 S1 r1 h1 => ⟨P.go G1, _, Xn, S1, h1, fun lo G2 H2 e2 S2 h2 => ⟨P.go G2, _, Xn, S2, h2, fun hi G3 H3 e3 S3 h3 => by
    have e := e1.trans (e2.trans e3)
    have r3 := r1.up (e2.trans e3).g
    cases r3 with
    | str z => exact .inl ⟨z, rfl, h3.1, k _ G3 H3 _ e S3 (.str _) h3.2⟩
    | @tup a xs ds h4 a4 =>
      refine .inr ⟨a, xs, rfl, SqT.of (S3.w.s _ _ h4), fun hw => ?_, fun hw p hp => ?_⟩
      · have ew : cutD ds lo hi = ds := by
          unfold cutD
          rw [← a4.length, hw.1, hw.2, List.drop_zero, Nat.sub_zero, a4.length, List.take_length]
        have h3 : R (.tuple (cutD ds lo hi)) G3.M := h3
        rw [ew] at h3
        exact k _ G3 H3 _ e S3 (.tup h4 a4) h3
      · have en := Gro.new (o := .tup (cutV xs lo hi)) S3.w.s hp
        exact k _ ⟨_, G3.M⟩ _ _ (e.trans en.any) (S3.pure en (same_new S3.w.s)) (.tup upd_same ((cut_rp a4 lo hi).up en.g)) h3
    | _ => exact h3.elim, kx⟩, kx⟩, kx⟩
theorem f_cut (ha : QE X W a da) (h1 : QO X W lo d1) (h2 : QO X W hi d2) : QF X W (.Subscript a (.Slice lo hi none p2) pos) (dSlF fCutL da d1 d2) :=
  pe_imp (pe_slice sl_list ha h1 h2) fun σ H Q ⟨P, R, Xn, S, h, k, kx⟩ =>
  ⟨P, _, Xn, S, h, fun v G1 H1 d e1 S1 r1 h1 => ⟨P.go G1, _, Xn, S1, h1, fun lo G2 H2 e2 S2 h2 => ⟨P.go G2, _, Xn, S2, h2, fun hi G3 H3 e3 S3 h3 => by
    have e := e1.trans (e2.trans e3)
    have r3 := r1.up (e2.trans e3).g
    cases r3 with
    | @lst a xs ds h4 a4 =>
      refine ⟨a, xs, rfl, SqL.of (S3.w.s _ _ h4), fun p hp => ?_⟩
      have en : Gro G3.G H3 G3.G (upd H3 p (.lst (cutV xs lo hi))) := Gro.own hp
      exact k p _ G3 _ _ (e.trans en.any) (S3.pure en (same_own S3.w.s hp)) (e.none_of hp) (S3.w.s.free hp) (S3.w.m_none hp) upd_same (cut_rp a4 lo hi) h3
    | _ => exact h3.elim, kx⟩, kx⟩, kx⟩
/-- a slice of either kind, a list's frozen -/
def fCutA (d : PyData) (lo hi : Option Int) (R : PyData → Prop) : Prop := match d with
  | .tuple ds => R (.tuple (cutD ds lo hi))
  | .list ds => R (.list (cutD ds lo hi))
  | .str z => z.length ≤ sizeLine ∧ R (.str (cutS z lo hi))
  | _ => False
theorem q_cutA (ha : QE X W a da) (h1 : QO X W lo d1) (h2 : QO X W hi d2) : QE X W (.Subscript a (.Slice lo hi none p2) pos) (dSl fCutA da d1 d2) :=
  pe_imp (pe_slice (SlR.or sl_str (SlR.or sl_tupA sl_list)) ha h1 h2) fun σ H Q ⟨P, R, Xn, S, h, k, kx⟩ =>
  ⟨P, _, Xn, S, h, fun v G1 H1 d e1 S1 r1 h1 => ⟨P.go G1, _, Xn, S1, h1, fun lo G2 H2 e2 S2 h2 => ⟨P.go G2, _, Xn, S2, h2, fun hi G3 H3 e3 S3 h3 => by
    have e := e1.trans (e2.trans e3)
    have r3 := r1.up (e2.trans e3).g
    cases r3 with
    | str z => exact .inl ⟨z, rfl, h3.1, k _ G3 H3 _ e S3 (.str _) h3.2⟩
    | @tup a xs ds h4 a4 =>
      refine .inr (.inl ⟨a, xs, rfl, SqT.of (S3.w.s _ _ h4), fun hw => ?_, fun hw p hp => ?_⟩)
      · have ew : cutD ds lo hi = ds := by
          unfold cutD
          rw [← a4.length, hw.1, hw.2, List.drop_zero, Nat.sub_zero, a4.length, List.take_length]
        have h3 : R (.tuple (cutD ds lo hi)) G3.M := h3
        rw [ew] at h3
        exact k _ G3 H3 _ e S3 (.tup h4 a4) h3
      · have en := Gro.new (o := .tup (cutV xs lo hi)) S3.w.s hp
        exact k _ ⟨_, G3.M⟩ _ _ (e.trans en.any) (S3.pure en (same_new S3.w.s)) (.tup upd_same ((cut_rp a4 lo hi).up en.g)) h3
    | @lst a xs ds h4 a4 =>
      refine .inr (.inr ⟨a, xs, rfl, SqL.of (S3.w.s _ _ h4), fun p hp => ?_⟩)
      have en := Gro.new (o := .lst (cutV xs lo hi)) S3.w.s hp
      exact k _ ⟨_, G3.M⟩ _ _ (e.trans en.any) (S3.pure en (same_new S3.w.s)) (.lst upd_same ((cut_rp a4 lo hi).up en.g)) h3
    | _ => exact h3.elim, kx⟩, kx⟩, kx⟩
end

/-! ### a list of one's own, read as data for a while -/
def isCel : List (PyData × PyData) → Bool
  | [(.bool true, .int _)] => true
  | _ => false
mutual
def noL : PyData → Bool
  | .list _ => false
  | .tuple ds => noLs ds
  | .dict kvs => isCel kvs
  | _ => true
def noLs : List PyData → Bool
  | [] => true
  | d :: ds => noL d && noLs ds
end
def cutH (G : Hp) (p : Addr) : Hp := fun a => if a = p then none else G a
theorem cutH_ne {G : Hp} {p a : Addr} (h : a ≠ p) : cutH G p a = G a := if_neg h
theorem cutH_same {G : Hp} {p : Addr} : cutH G p p = none := if_pos rfl
theorem isCel_dct {kvs : List (Key × PyData)} (h : isCel (kvs.map fun p => (kD p.1, p.2)) = true) : False := by
  cases kvs with
  | nil => cases h
  | cons x r =>
    obtain ⟨k, v⟩ := x
    cases k <;> cases h
mutual
theorem rp_cut {K : PySem.W.Frag} {G : Hp} {p : Addr} {xs : List V} (hp : G p = some (.lst xs)) : ∀ {d : PyData} {v : V}, noL d = true → Rp K G v d → Rp K (cutH G p) v d
  | _, _, _, .non => .non
  | _, _, _, .bl b => .bl b
  | _, _, _, .int i => .int i
  | _, _, _, .str x => .str x
  | _, _, n, .lst _ _ => by rw [noL] at n; cases n
  | _, _, n, .tup hs ha => .tup (by rw [cutH_ne (ne_of hs hp (by intro z; cases z))]; exact hs) (rps_cut hp (by rw [noL] at n; exact n) ha)
  | _, _, n, .dct _ _ => by rw [noL] at n; exact (isCel_dct n).elim
  | _, _, n, .ins _ _ => by rw [noL, isCel] at n; cases n; intro a h; cases h
  | _, _, _, .cel a => .cel a
  | _, _, n, .exn _ => by rw [noL, isCel] at n; cases n; intro a h; cases h
  | _, _, n, .exb _ _ _ => by rw [noL, isCel] at n; cases n; intro a h; cases h
theorem rps_cut {K : PySem.W.Frag} {G : Hp} {p : Addr} {xs : List V} (hp : G p = some (.lst xs)) : ∀ {ds : List PyData} {vs : List V}, noLs ds = true → RpAll K G vs ds → RpAll K (cutH G p) vs ds
  | _, _, _, .nil => .nil
  | _, _, n, .cons h1 h2 => .cons (rp_cut hp (by rw [noLs, Bool.and_eq_true] at n; exact n.1) h1) (rps_cut hp (by rw [noLs, Bool.and_eq_true] at n; exact n.2) h2)
end
section
variable {K : PySem.W.Frag} {bx : Option Bx} {G0 G G' : Gm} {H0 H H' : Hp} {σ : L2.St} {E : List En}
/-- what was done with no cell at hand -/
theorem Ext.frame0 {G1 : Hp} (e : Ext bx ⟨G.G, Mu.no⟩ H ⟨G1, Mu.no⟩ H') : Ext bx G H ⟨G1, G.M⟩ H' := ⟨e.g, fun a o n _ q => e.h a o n rfl q, fun a o q => by
  rcases e.n a o q with z | z | ⟨_, z⟩
  · exact .inl z
  · exact .inr (.inl z)
  · exact absurd (show (none : Option Ob) = some _ from z) (by simp), e.al, fun a ob q => .inl ⟨ob, q⟩⟩
theorem Wo.frame0 {G1 : Hp} (w : Wo K bx G H) (e : Ext bx ⟨G.G, Mu.no⟩ H ⟨G1, Mu.no⟩ H') (w' : Wo K bx ⟨G1, Mu.no⟩ H') : Wo K bx ⟨G1, G.M⟩ H' := by
  refine ⟨w'.s, w'.b, fun a ob q => ?_⟩
  obtain ⟨c1, c2, c3⟩ := w.c a ob q
  obtain ⟨o, ho⟩ := c1.there
  exact ⟨c1.up e.g ((e.h a o c3 rfl ho).trans ho.symm), e.g_none rfl c2 ho, c3⟩
/-- behind what was done while the list at p lay frozen: it is one's own again -/
theorem SR.back (s : SR K bx G0 H0 G H σ E) {i : Nat} {p : Addr} {xs : List V} {ds : List PyData} (hi : E[i]? = some (.own ds)) (hσ : σ[i]? = some (some (.ref p))) (hx : H p = some (.lst xs))
    (e : Ext bx ⟨upd G.G p (.lst xs), Mu.no⟩ H G' H') (w : Wo K bx G' H') : G' p = some (.lst xs) ∧ Ext bx G H ⟨cutH G'.G p, G.M⟩ H' ∧ SR K bx G0 H0 ⟨cutH G'.G p, G.M⟩ H' σ E := by
  obtain ⟨p', xs0, z1, z2, ⟨z3, z3'⟩, z4, z5, z6⟩ := s.e i _ hi
  rw [hσ] at z1
  cases z1
  have gp : G' p = some (.lst xs) := e.g p _ upd_same
  have gg : Same G.G (cutH G'.G p) := fun a o q => by
    have np := ne_of_none q z3
    rw [cutH_ne np]
    exact e.g a o (by show upd G.G p _ a = _; rw [upd_ne np]; exact q)
  have e2 : Ext bx G H ⟨cutH G'.G p, G.M⟩ H' := ⟨gg, fun a o n _ q => e.h a o n rfl q, fun a o q => by
    have q : cutH G'.G p a = some o := q
    by_cases h : a = p
    · rw [h, cutH_same] at q; cases q
    · rw [cutH_ne h] at q
      rcases e.n a o q with y | y | ⟨_, y⟩
      · have y : upd G.G p (.lst xs) a = some o := y
        rw [upd_ne h] at y; exact .inl y
      · exact .inr (.inl y)
      · exact absurd (show (none : Option Ob) = some _ from y) (by simp), e.al, fun a ob q => .inl ⟨ob, q⟩⟩
  refine ⟨gp, e2, s.ext e2 ⟨fun a o q => ?_, fun z hz => ?_, fun a ob q => ?_⟩⟩
  · have q : cutH G'.G p a = some o := q
    by_cases h : a = p
    · rw [h, cutH_same] at q; cases q
    · rw [cutH_ne h] at q
      exact w.s a o q
  · obtain ⟨b1, ns, y1, y2, y3, y4, y5, y6, y7⟩ := w.b z hz
    obtain ⟨_, _, _, _, _, _, _, y6', _⟩ := s.w.b z hz
    refine ⟨?_, ns, y1, y2, y3, y4, y5, ?_, y7⟩
    · show cutH G'.G p z.b = none
      by_cases h : z.b = p
      · rw [h, cutH_same]
      · rw [cutH_ne h]; exact b1
    · -- the box's first item is no list of one's own
      have na : z.a ≠ p := by
        cases y6' with
        | lst h _ => exact fun q => by have z3 : G.G p = none := z3; rw [q, z3] at h; cases h
      cases y6 with
      | lst h ha =>
        have e3 := ha.ints
        subst e3
        exact .lst (by show cutH G'.G p z.a = _; rw [cutH_ne na]; exact h) (rps_ints _)
  · obtain ⟨c1, c2, c3⟩ := s.w.c a ob q
    obtain ⟨o, ho⟩ := c1.there
    refine ⟨c1.up gg ((e.h a o c3 rfl ho).trans ho.symm), ?_, c3⟩
    have := e2.n a
    cases y : cutH G'.G p a with
    | none => exact y
    | some u =>
      by_cases h : a = p
      · rw [h] at q; have z3' : G.M p = none := z3'; rw [z3'] at q; cases q
      · rw [cutH_ne h] at y
        rcases e.n a u y with z | z | ⟨_, z⟩
        · have z : upd G.G p (.lst xs) a = some u := z
          rw [upd_ne h] at z
          have c2 : G.G a = none := c2
          rw [c2] at z; cases z
        · rw [ho] at z; cases z
        · cases z
end
/-- slot i, a list of one's own, read as data, no cell at hand; what comes back holds no list -/
def dBw (i : Nat) (de : DE) : DE := fun E R _ M => ∃ ds, E[i]? = some (.own ds) ∧ de (E.set i (.dat (.list ds))) (fun d _ => noL d = true ∧ R d M) XF Mu.no
def dBwT (i : Nat) (dt : DT) : DT := fun E R _ M => ∃ ds, E[i]? = some (.own ds) ∧ dt (E.set i (.dat (.list ds))) (fun b _ => R b M) XF Mu.no
def dBwF (i : Nat) (df : DF) : DF := fun E R _ M => ∃ ds, E[i]? = some (.own ds) ∧ df (E.set i (.dat (.list ds))) (fun es _ => noLs es = true ∧ R es M) XF Mu.no
section
variable {X : Cx} {W : WX} {e : Expr} {de : DE} {dt : DT} {df : DF}
theorem q_bw (i : Nat) (h : QE X W e de) : QE X W e (dBw i de) := pe_imp h fun σ H Q ⟨P, R, Xn, S, ⟨ds, hi, h⟩, k, kx⟩ => by
  obtain ⟨p, xs, z1, z2, z3, z4, z5, z6⟩ := S.e i _ hi
  obtain ⟨S2, _⟩ := S.frz hi z1 z5
  refine ⟨⟨P.bx, P.G0, P.H0, ⟨upd P.G.G p (.lst xs), Mu.no⟩, P.E.set i (.dat (.list ds))⟩, _, _, S2.less Mu.no_le, h, fun v G1 H1 d e1 S1 r1 ⟨hn, hR⟩ => ?_, fun _ _ _ _ _ _ _ f => f.elim⟩
  obtain ⟨gp, e2, S3⟩ := S.back hi z1 z5 e1 S1.w
  exact k v _ H1 d e2 S3 (rp_cut gp hn r1) hR
theorem t_bw (i : Nat) (h : QT X W e dt) : QT X W e (dBwT i dt) := pt_imp h fun σ H Q ⟨P, R, Xn, S, ⟨ds, hi, h⟩, k, kx⟩ => by
  obtain ⟨p, xs, z1, z2, z3, z4, z5, z6⟩ := S.e i _ hi
  obtain ⟨S2, _⟩ := S.frz hi z1 z5
  refine ⟨⟨P.bx, P.G0, P.H0, ⟨upd P.G.G p (.lst xs), Mu.no⟩, P.E.set i (.dat (.list ds))⟩, _, _, S2.less Mu.no_le, h, fun b G1 H1 e1 S1 hR => ?_, fun _ _ _ _ _ _ _ f => f.elim⟩
  obtain ⟨gp, e2, S3⟩ := S.back hi z1 z5 e1 S1.w
  exact k b _ H1 e2 S3 hR
theorem bw_lift {K : PySem.W.Frag} {σ : L2.St} {H : Hp} {Q : VK} (j : Nat) (h : liftF K W (dBwF j df) σ H Q) : liftF K W df σ H Q := by
  obtain ⟨P, R, Xn, S, ⟨ds, hi, h⟩, k, kx⟩ := h
  obtain ⟨p, xs, z1, z2, z3, z4, z5, z6⟩ := S.e j _ hi
  obtain ⟨S2, _⟩ := S.frz hi z1 z5
  refine ⟨⟨P.bx, P.G0, P.H0, ⟨upd P.G.G p (.lst xs), Mu.no⟩, P.E.set j (.dat (.list ds))⟩, _, _, S2.less Mu.no_le, h, fun q ys G1 H1 es e1 S1 hq gq mq hx rr ⟨hn, hR⟩ => ?_, fun _ _ _ _ _ _ _ f => f.elim⟩
  obtain ⟨gp, e2, S3⟩ := S.back hi z1 z5 e1 S1.w
  refine k q ys _ H1 es e2 S3 hq ?_ (S.w.m_none hq) hx (rps_cut gp hn rr) hR
  show cutH G1.G p q = none
  by_cases h : q = p
  · rw [h, cutH_same]
  · rw [cutH_ne h]; exact gq
theorem f_bw (i : Nat) (h : QF X W e df) : QF X W e (dBwF i df) := pe_imp h fun σ H Q h => bw_lift i h
/-- truth of data -/
def truD : PyData → Bool
  | .none => false
  | .bool b => b
  | .int i => i != 0
  | .str z => (z.length : Int) != 0
  | .list ds => !ds.isEmpty
  | .tuple ds => !ds.isEmpty
  | .dict _ => false
def dTru (de : DE) : DT := fun E R Xn => de E (fun d M => (noDct d = true ∧ small d) ∧ R (truD d) M) Xn
theorem rps_empty {K : PySem.W.Frag} {G : Hp} {xs : List V} {ds : List PyData} (r : RpAll K G xs ds) : (!xs.isEmpty) = !ds.isEmpty := by cases r <;> rfl
theorem t_tru (h : QE X W e de) (he : ∀ whole, isTrue e X.env whole = (do let v ← whole; standAt e.pos; holding [v] (truthy v)) := by intro _; rfl) : QT X W e (dTru de) := pt_imp (pt_truth h he) fun σ H Q ⟨P, R, Xn, S, h, k, kx⟩ =>
  ⟨P, _, Xn, S, h, fun v G1 H1 d e1 S1 r1 ⟨⟨nd, hz⟩, hR⟩ => by
    refine ⟨truD d, ?_, k _ G1 H1 e1 S1 hR⟩
    cases r1 with
    | non => rfl
    | bl b => rfl
    | int i => rfl
    | str x => exact ⟨hz, rfl⟩
    | lst h a => exact .inl ⟨_, SqL.of (S1.w.s _ _ h), (rps_empty a).symm⟩
    | tup h a => exact .inr (.inl ⟨_, SqT.of (S1.w.s _ _ h), (rps_empty a).symm⟩)
    | _ => exact Bool.noConfusion (show false = true from nd), kx⟩
end

/-! ### defs of the program's own -/
/-- a def's promise over data: its arguments, what comes back, what is raised -/
abbrev DSp := List En → (PyData → Prop) → (Er → Prop) → Prop
abbrev DSpF := List En → (List PyData → Prop) → (Er → Prop) → Prop
def ErS (K : PySem.W.Frag) (bx : Option Bx) (G H : Hp) (Xn : Er → Prop) (E : XK) : Prop := ∀ x cls dd (G' : Hp) H', Ext bx ⟨G, Mu.no⟩ H ⟨G', Mu.no⟩ H' → Wo K bx ⟨G', Mu.no⟩ H' → ErOk K G' H' x cls dd → Xn x → E cls dd H'
def spF (K : PySem.W.Frag) (sp : DSp) : Sp := fun vs H Q E => ∃ (bx : Option Bx) (G : Hp) (as : List En) (R : PyData → Prop) (Xn : Er → Prop), Wo K bx ⟨G, Mu.no⟩ H ∧ ArgsOk K bx G vs as ∧ sp as R Xn ∧
  (∀ v (G' : Hp) H' d, Ext bx ⟨G, Mu.no⟩ H ⟨G', Mu.no⟩ H' → Wo K bx ⟨G', Mu.no⟩ H' → Rp K G' v d → R d → Q v H') ∧ ErS K bx G H Xn E
def spO (K : PySem.W.Frag) (sp : DSpF) : Sp := fun vs H Q E => ∃ (bx : Option Bx) (G : Hp) (as : List En) (R : List PyData → Prop) (Xn : Er → Prop), Wo K bx ⟨G, Mu.no⟩ H ∧ ArgsOk K bx G vs as ∧ sp as R Xn ∧
  (∀ p xs (G' : Hp) H' ds, Ext bx ⟨G, Mu.no⟩ H ⟨G', Mu.no⟩ H' → Wo K bx ⟨G', Mu.no⟩ H' → H p = none → G' p = none → H' p = some (.lst xs) → RpAll K G' xs ds → R ds → Q (.ref p) H') ∧ ErS K bx G H Xn E
/-- a def's promise that tells of cells, too -/
abbrev DSpM := List En → (PyData → Mu → Prop) → (Er → Mu → Prop) → Mu → Prop
def ErSM (K : PySem.W.Frag) (bx : Option Bx) (G : Gm) (H : Hp) (Xn : Er → Mu → Prop) (E : XK) : Prop := ∀ x cls dd (G' : Gm) H', Ext bx G H G' H' → Wo K bx G' H' → ErOk K G' H' x cls dd → Xn x G'.M → E cls dd H'
def spM (K : PySem.W.Frag) (sp : DSpM) : Sp := fun vs H Q E => ∃ (bx : Option Bx) (G : Gm) (as : List En) (R : PyData → Mu → Prop) (Xn : Er → Mu → Prop), Wo K bx G H ∧ ArgsOk K bx G vs as ∧ sp as R Xn G.M ∧
  (∀ v (G' : Gm) H' d, Ext bx G H G' H' → Wo K bx G' H' → Rp K G' v d → R d G'.M → Q v H') ∧ ErSM K bx G H Xn E
/-- a def as it stands behind the top: found by its name -/
structure DefAt (P : Program) (w : World) (K : PySem.W.Frag) (mg : Str → Option Value) (base : Heap) (CX : CXT) (k : Nat) (x : Str) (ps : List Str) (sp : Sp) : Prop where
  ok : ∃ fd, FnOk P w K mg base CX k (He.ga K x) fd ps sp ∧ Binds K fd ps [] ∧ PySem.W.keepIn K (.ref (He.ga K x)) = true ∧ mg x = some (.ref (He.ga K x))
def dCall (sp : DSp) (da : DA) : DE := fun E R Xn => da E (fun as M => sp as (fun d => R d M) (fun _ => False)) Xn
def dCallF (sp : DSpF) (da : DA) : DF := fun E R Xn => da E (fun as M => sp as (fun d => R d M) (fun _ => False)) Xn
def dCallX (sp : DSp) (da : DA) : DE := fun E R Xn => da E (fun as M => sp as (fun d => R d M) (fun x => Xn x M)) Xn
def dCallXF (sp : DSpF) (da : DA) : DF := fun E R Xn => da E (fun as M => sp as (fun d => R d M) (fun x => Xn x M)) Xn
def dCallM (sp : DSpM) (da : DA) : DE := fun E R Xn => da E (fun as => sp as R XF) Xn
def dCallMX (sp : DSpM) (da : DA) : DE := fun E R Xn => da E (fun as => sp as R Xn) Xn
section
variable {X : Cx} {W : WX} {pos p : Pos} {e : Expr} {es : List Expr} {da : DA} {x : Str} {k : Nat} {ps : List Str} {sp : DSp} {sq : DSpF} {sm : DSpM} {CX : CXT}
theorem go_call {K : PySem.W.Frag} {P : Pt} {σ : L2.St} {vs : List V} {G1 : Gm} {H1 : Hp} {as : List En} {R : PyData → Mu → Prop} {Q : VK} {H : Hp} {E : XK} {Xn : Er → Prop} (e1 : Ext P.bx P.G H G1 H1) (S1 : (P.go G1).ok K H1 σ) (r1 : ArgsOk K P.bx G1 vs as) (h1 : sp as (fun d => R d G1.M) Xn)
    (k : ∀ v (G' : Gm) H' d, Ext P.bx P.G H G' H' → (P.go G').ok K H' σ → Rp K G' v d → R d G'.M → Q v H') (kx : ErS K P.bx G1.G H1 Xn E) : spF K sp vs H1 Q E :=
  ⟨P.bx, G1.G, as, _, Xn, S1.w.less Mu.no_le, r1, h1, fun v G' H' d e2 w2 r2 hR => k v ⟨G', G1.M⟩ H' d (e1.trans e2.frame0) (S1.ext e2.frame0 (S1.w.frame0 e2 w2)) r2 hR, kx⟩
theorem go_callF {K : PySem.W.Frag} {P : Pt} {σ : L2.St} {vs : List V} {G1 : Gm} {H1 : Hp} {as : List En} {R : List PyData → Mu → Prop} {Q : VK} {H : Hp} {E : XK} {Xn : Er → Prop} (e1 : Ext P.bx P.G H G1 H1) (S1 : (P.go G1).ok K H1 σ) (r1 : ArgsOk K P.bx G1 vs as) (h1 : sq as (fun d => R d G1.M) Xn)
    (k : ∀ p xs (G' : Gm) H' ds, Ext P.bx P.G H G' H' → (P.go G').ok K H' σ → H p = none → G' p = none → G'.M p = none → H' p = some (.lst xs) → RpAll K G' xs ds → R ds G'.M → Q (.ref p) H') (kx : ErS K P.bx G1.G H1 Xn E) : spO K sq vs H1 Q E :=
  ⟨P.bx, G1.G, as, _, Xn, S1.w.less Mu.no_le, r1, h1, fun p xs G' H' ds e2 w2 hp gp hx rr hR => k p xs ⟨G', G1.M⟩ H' ds (e1.trans e2.frame0) (S1.ext e2.frame0 (S1.w.frame0 e2 w2)) (e1.none_of hp) gp (S1.w.m_none hp) hx rr hR, kx⟩
theorem er_call {K : PySem.W.Frag} {P : Pt} {σ : L2.St} {G1 : Gm} {H1 : Hp} {Xn : Er → Mu → Prop} (S1 : (P.go G1).ok K H1 σ) (kx : ErTo K W P σ Xn) : ErS K P.bx G1.G H1 (fun x => Xn x G1.M) (fun cls dd H => W cls dd σ H) :=
  fun x cls dd G' H' e2 w2 er hx => kx x cls dd ⟨G', G1.M⟩ H' (S1.ext e2.frame0 (S1.w.frame0 e2 w2)) er hx
theorem er_no {K : PySem.W.Frag} {bx : Option Bx} {G H : Hp} {E : XK} : ErS K bx G H (fun _ => False) E := fun _ _ _ _ _ _ _ _ f => f.elim
theorem lift_call {K : PySem.W.Frag} {σ : L2.St} {H : Hp} {Q : VK} (h : liftE K W (dCall sp da) σ H Q) : tCall (spF K sp) [] E0 (liftA K W da) σ H Q := by
  obtain ⟨P, R, Xn, S, h, k, kx⟩ := h
  refine ⟨P, _, Xn, S, h, fun vs G1 H1 as e1 S1 r1 h1 => ?_, kx⟩
  show spF K sp (vs ++ []) H1 Q E0
  rw [List.append_nil]
  exact go_call e1 S1 r1 h1 k er_no
theorem lift_callF {K : PySem.W.Frag} {σ : L2.St} {H : Hp} {Q : VK} (h : liftF K W (dCallF sq da) σ H Q) : tCall (spO K sq) [] E0 (liftA K W da) σ H Q := by
  obtain ⟨P, R, Xn, S, h, k, kx⟩ := h
  refine ⟨P, _, Xn, S, h, fun vs G1 H1 as e1 S1 r1 h1 => ?_, kx⟩
  show spO K sq (vs ++ []) H1 Q E0
  rw [List.append_nil]
  exact go_callF e1 S1 r1 h1 k er_no
theorem lift_callX {K : PySem.W.Frag} {σ : L2.St} {H : Hp} {Q : VK} (h : liftE K W (dCallX sp da) σ H Q) : tCallS (spF K sp) (WE W) (liftA K W da) σ H Q := by
  obtain ⟨P, R, Xn, S, h, k, kx⟩ := h
  exact ⟨P, _, Xn, S, h, fun vs G1 H1 as e1 S1 r1 h1 => go_call e1 S1 r1 h1 k (er_call S1 kx), kx⟩
theorem lift_callXF {K : PySem.W.Frag} {σ : L2.St} {H : Hp} {Q : VK} (h : liftF K W (dCallXF sq da) σ H Q) : tCallS (spO K sq) (WE W) (liftA K W da) σ H Q := by
  obtain ⟨P, R, Xn, S, h, k, kx⟩ := h
  exact ⟨P, _, Xn, S, h, fun vs G1 H1 as e1 S1 r1 h1 => go_callF e1 S1 r1 h1 k (er_call S1 kx), kx⟩
theorem lift_callM {K : PySem.W.Frag} {σ : L2.St} {H : Hp} {Q : VK} (h : liftE K W (dCallM sm da) σ H Q) : tCall (spM K sm) [] E0 (liftA K W da) σ H Q := by
  obtain ⟨P, R, Xn, S, h, k, kx⟩ := h
  refine ⟨P, _, Xn, S, h, fun vs G1 H1 as e1 S1 r1 h1 => ?_, kx⟩
  show spM K sm (vs ++ []) H1 Q E0
  rw [List.append_nil]
  exact ⟨P.bx, G1, as, R, XF, S1.w, r1, h1, fun v G' H' d e2 w2 r2 hR => k v G' H' d (e1.trans e2) (S1.ext e2 w2) r2 hR, fun _ _ _ _ _ _ _ _ f => f.elim⟩
theorem lift_callMX {K : PySem.W.Frag} {σ : L2.St} {H : Hp} {Q : VK} (h : liftE K W (dCallMX sm da) σ H Q) : tCallS (spM K sm) (WE W) (liftA K W da) σ H Q := by
  obtain ⟨P, R, Xn, S, h, k, kx⟩ := h
  exact ⟨P, _, Xn, S, h, fun vs G1 H1 as e1 S1 r1 h1 => ⟨P.bx, G1, as, R, Xn, S1.w, r1, h1, fun v G' H' d e2 w2 r2 hR => k v G' H' d (e1.trans e2) (S1.ext e2 w2) r2 hR, fun x cls dd G' H' e2 w2 er hx => kx x cls dd G' H' (S1.ext e2 w2) er hx⟩, kx⟩
/-- nothing is let out of the call -/
def Quiet (CX : CXT) (X : Cx) : Prop := Passes CX X E0
theorem quiet0 : Quiet CX0 X := pass0
theorem quietX : Quiet (L2.CX X.prog X.w) X := passL
theorem q_call {k0 : Nat} (F : DefAt X.prog X.w X.K X.mg X.base CX k0 x ps (spF X.K sp)) (hr : Room k X.A) (hq : Quiet CX X) (ha : QA X W (e :: es) da) (hk : k0 ≤ k := by decide) (hg : Gl X x := by rfl) (hdb : (x == ("__debug__" : Str)) = false := by decide) (he : starEach (e :: es) X.env = (false, eval e X.env) :: starEach es X.env := by rfl) (hpl : (backTo pos (starEach es X.env)).any (·.1) = false := by rfl) :
    QE X W (.Call (.Name x p) (e :: es) [] pos) (dCall sp da) := by
  obtain ⟨fd, F, b, kp, gl⟩ := F.ok
  exact pe_imp (pe_call F (hr.mono hk) hg gl kp b .nil hq ha hdb he hpl) fun _ _ _ => lift_call
theorem f_call {k0 : Nat} (F : DefAt X.prog X.w X.K X.mg X.base CX k0 x ps (spO X.K sq)) (hr : Room k X.A) (hq : Quiet CX X) (ha : QA X W (e :: es) da) (hk : k0 ≤ k := by decide) (hg : Gl X x := by rfl) (hdb : (x == ("__debug__" : Str)) = false := by decide) (he : starEach (e :: es) X.env = (false, eval e X.env) :: starEach es X.env := by rfl) (hpl : (backTo pos (starEach es X.env)).any (·.1) = false := by rfl) :
    QF X W (.Call (.Name x p) (e :: es) [] pos) (dCallF sq da) := by
  obtain ⟨fd, F, b, kp, gl⟩ := F.ok
  exact pe_imp (pe_call F (hr.mono hk) hg gl kp b .nil hq ha hdb he hpl) fun _ _ _ => lift_callF
theorem q_call0 {k0 : Nat} (F : DefAt X.prog X.w X.K X.mg X.base CX k0 x ps (spF X.K sp)) (hr : Room k X.A) (hq : Quiet CX X) (hk : k0 ≤ k := by decide) (hg : Gl X x := by rfl) (hdb : (x == ("__debug__" : Str)) = false := by decide) : QE X W (.Call (.Name x p) [] [] pos) (dCall sp dNil) := by
  obtain ⟨fd, F, b, kp, gl⟩ := F.ok
  refine pe_imp (pe_call0 F (hr.mono hk) hg gl kp b .nil hq hdb) fun σ H Q ⟨P, R, Xn, S, h, k, kx⟩ => ?_
  exact go_call (K := X.K) (P := P) Ext.refl S .nil h k er_no
theorem q_callX {k0 : Nat} (F : DefAt X.prog X.w X.K X.mg X.base (L2.CX X.prog X.w) k0 x ps (spF X.K sp)) (hr : Room k X.A) (tk : Takes X W) (ha : QA X W (e :: es) da) (hk : k0 ≤ k := by decide) (hg : Gl X x := by rfl) (hdb : (x == ("__debug__" : Str)) = false := by decide) (he : starEach (e :: es) X.env = (false, eval e X.env) :: starEach es X.env := by rfl) (hpl : (backTo pos (starEach es X.env)).any (·.1) = false := by rfl) :
    QE X W (.Call (.Name x p) (e :: es) [] pos) (dCallX sp da) := by
  obtain ⟨fd, F, b, kp, gl⟩ := F.ok
  exact pe_imp (pe_callS F (hr.mono hk) hg gl kp b (fun σ => passAt tk σ) ha hdb he hpl) fun _ _ _ => lift_callX
theorem f_callX {k0 : Nat} (F : DefAt X.prog X.w X.K X.mg X.base (L2.CX X.prog X.w) k0 x ps (spO X.K sq)) (hr : Room k X.A) (tk : Takes X W) (ha : QA X W (e :: es) da) (hk : k0 ≤ k := by decide) (hg : Gl X x := by rfl) (hdb : (x == ("__debug__" : Str)) = false := by decide) (he : starEach (e :: es) X.env = (false, eval e X.env) :: starEach es X.env := by rfl) (hpl : (backTo pos (starEach es X.env)).any (·.1) = false := by rfl) :
    QF X W (.Call (.Name x p) (e :: es) [] pos) (dCallXF sq da) := by
  obtain ⟨fd, F, b, kp, gl⟩ := F.ok
  exact pe_imp (pe_callS F (hr.mono hk) hg gl kp b (fun σ => passAt tk σ) ha hdb he hpl) fun _ _ _ => lift_callXF
theorem q_callM {k0 : Nat} (F : DefAt X.prog X.w X.K X.mg X.base CX k0 x ps (spM X.K sm)) (hr : Room k X.A) (hq : Quiet CX X) (ha : QA X W (e :: es) da) (hk : k0 ≤ k := by decide) (hg : Gl X x := by rfl) (hdb : (x == ("__debug__" : Str)) = false := by decide) (he : starEach (e :: es) X.env = (false, eval e X.env) :: starEach es X.env := by rfl) (hpl : (backTo pos (starEach es X.env)).any (·.1) = false := by rfl) :
    QE X W (.Call (.Name x p) (e :: es) [] pos) (dCallM sm da) := by
  obtain ⟨fd, F, b, kp, gl⟩ := F.ok
  exact pe_imp (pe_call F (hr.mono hk) hg gl kp b .nil hq ha hdb he hpl) fun _ _ _ => lift_callM
theorem q_callM0 {k0 : Nat} (F : DefAt X.prog X.w X.K X.mg X.base CX k0 x ps (spM X.K sm)) (hr : Room k X.A) (hq : Quiet CX X) (hk : k0 ≤ k := by decide) (hg : Gl X x := by rfl) (hdb : (x == ("__debug__" : Str)) = false := by decide) : QE X W (.Call (.Name x p) [] [] pos) (dCallM sm dNil) := by
  obtain ⟨fd, F, b, kp, gl⟩ := F.ok
  refine pe_imp (pe_call0 F (hr.mono hk) hg gl kp b .nil hq hdb) fun σ H Q ⟨P, R, Xn, S, h, k, kx⟩ => ?_
  exact ⟨P.bx, P.G, [], R, XF, S.w, .nil, h, fun v G' H' d e2 w2 r2 hR => k v G' H' d e2 (S.ext e2 w2) r2 hR, fun _ _ _ _ _ _ _ _ f => f.elim⟩
theorem q_callMX {k0 : Nat} (F : DefAt X.prog X.w X.K X.mg X.base (L2.CX X.prog X.w) k0 x ps (spM X.K sm)) (hr : Room k X.A) (tk : Takes X W) (ha : QA X W (e :: es) da) (hk : k0 ≤ k := by decide) (hg : Gl X x := by rfl) (hdb : (x == ("__debug__" : Str)) = false := by decide) (he : starEach (e :: es) X.env = (false, eval e X.env) :: starEach es X.env := by rfl) (hpl : (backTo pos (starEach es X.env)).any (·.1) = false := by rfl) :
    QE X W (.Call (.Name x p) (e :: es) [] pos) (dCallMX sm da) := by
  obtain ⟨fd, F, b, kp, gl⟩ := F.ok
  exact pe_imp (pe_callS F (hr.mono hk) hg gl kp b (fun σ => passAt tk σ) ha hdb he hpl) fun _ _ _ => lift_callMX
end
end Wx

namespace Wx
open PySem PySem.Spec PyProof.Rows L2

/-! ### what is walked: its items as data -/
/-- turn by turn, in any heap in which G stands, J gives these items -/
structure Src (K : PySem.W.Frag) (G : Hp) (J : It) (items : List PyData) : Prop where
  go : ∀ (i : Nat) (G2 H2 : Hp), Same G G2 → Same G2 H2 → i < items.length → J.go i H2
  stop : ∀ (i : Nat) (G2 H2 : Hp), Same G G2 → Same G2 H2 → items.length ≤ i → J.stop i H2
  yld : ∀ (i : Nat) (G2 H2 : Hp) (x : V) (H' : Hp), Same G G2 → Same G2 H2 → i < items.length → J.yld i H2 x H' → ∃ (G3 : Hp) (d : PyData), Gro G2 H2 G3 H' ∧ Same G3 H' ∧ items[i]? = some d ∧ Rp K G3 x d
theorem src_list {K : PySem.W.Frag} {G : Hp} {a : Addr} {xs : List V} {ds : List PyData} (h : G a = some (.lst xs)) (r : RpAll K G xs ds) : Src K G (Itl K a) ds where
  go := fun i G2 H2 s t hi => ⟨xs, xs[i]'(by rw [r.length]; exact hi), SqL.of (t _ _ (s _ _ h)), by simp [r.length, hi]⟩
  stop := fun i G2 H2 s t hi => ⟨xs, SqL.of (t _ _ (s _ _ h)), by rw [r.length]; exact hi⟩
  yld := fun i G2 H2 x H' s t hi ⟨e, q⟩ => by
    subst e
    obtain ⟨d, h1, h2⟩ := r.of_at (q xs (SqL.of (t _ _ (s _ _ h))))
    exact ⟨G2, d, Gro.refl, t, h1, h2.up s⟩
theorem src_tup {K : PySem.W.Frag} {G : Hp} {a : Addr} {xs : List V} {ds : List PyData} (h : G a = some (.tup xs)) (r : RpAll K G xs ds) : Src K G (Itt K a) ds where
  go := fun i G2 H2 s t hi => ⟨xs, xs[i]'(by rw [r.length]; exact hi), SqT.of (t _ _ (s _ _ h)), by simp [r.length, hi]⟩
  stop := fun i G2 H2 s t hi => ⟨xs, SqT.of (t _ _ (s _ _ h)), by rw [r.length]; exact hi⟩
  yld := fun i G2 H2 x H' s t hi ⟨e, q⟩ => by
    subst e
    obtain ⟨d, h1, h2⟩ := r.of_at (q xs (SqT.of (t _ _ (s _ _ h))))
    exact ⟨G2, d, Gro.refl, t, h1, h2.up s⟩
def rngD (lo : Int) (n : Nat) : List PyData := (List.range n).map fun i => .int (lo + (i : Nat))
theorem rngD_len (lo : Int) (n : Nat) : (rngD lo n).length = n := by unfold rngD; simp
theorem src_rng {K : PySem.W.Frag} {G : Hp} {lo : Int} {n : Nat} : Src K G (Itr lo n) (rngD lo n) where
  go := fun i G2 H2 s t hi => by rw [rngD_len] at hi; exact hi
  stop := fun i G2 H2 s t hi => by rw [rngD_len] at hi; exact hi
  yld := fun i G2 H2 x H' s t hi ⟨e, q⟩ => by
    subst e q
    rw [rngD_len] at hi
    exact ⟨G2, .int (lo + i), Gro.refl, t, by unfold rngD; simp [hi], .int _⟩
def signsD (z : Str) : List PyData := z.cps.toList.map fun c => .str ⟨#[c]⟩
theorem src_str {K : PySem.W.Frag} {G : Hp} {z : Str} : Src K G (Its z) (signsD z) where
  go := fun i G2 H2 s t hi => by
    unfold signsD at hi
    show i < z.cps.size
    simpa using hi
  stop := fun i G2 H2 s t hi => by
    unfold signsD at hi
    show z.cps.size ≤ i
    simpa using hi
  yld := fun i G2 H2 x H' s t hi ⟨e, c, q1, q2⟩ => by
    subst e q2
    exact ⟨G2, .str ⟨#[c]⟩, Gro.refl, t, by unfold signsD; simp [q1], .str _⟩
def enumD (ds : List PyData) : List PyData := (List.range ds.length).map fun i => .tuple [.int (i : Nat), ds.getD i .none]
theorem src_enum {K : PySem.W.Frag} {G : Hp} {a : Addr} {xs : List V} {ds : List PyData} (h : G a = some (.lst xs)) (r : RpAll K G xs ds) : Src K G (Ite K a) (enumD ds) where
  go := fun i G2 H2 s t hi => by
    have hi : i < xs.length := by unfold enumD at hi; rw [r.length]; simpa using hi
    exact ⟨xs, xs[i], SqL.of (t _ _ (s _ _ h)), by simp [hi]⟩
  stop := fun i G2 H2 s t hi => ⟨xs, SqL.of (t _ _ (s _ _ h)), by unfold enumD at hi; rw [r.length]; simpa using hi⟩
  yld := fun i G2 H2 v H' s t hi ⟨T, x, e1, hT, e2, q⟩ => by
    subst e1 e2
    have hi : i < ds.length := by unfold enumD at hi; simpa using hi
    obtain ⟨d, h1, h2⟩ := r.of_at (q xs (SqL.of (t _ _ (s _ _ h))))
    have en := Gro.new (o := .tup [.int (i : Nat), x]) t hT
    refine ⟨_, .tuple [.int (i : Nat), d], en, same_new t, ?_, .tup upd_same (.cons (.int _) (.cons ((h2.up s).up en.g) .nil))⟩
    unfold enumD
    simp [hi]
    exact (List.getElem?_eq_some_iff.mp h1).2
theorem src_rev {K : PySem.W.Frag} {G : Hp} {a : Addr} {xs : List V} {ds : List PyData} (h : G a = some (.lst xs)) (r : RpAll K G xs ds) : Src K G (Itv K a xs.length) ds.reverse where
  go := fun i G2 H2 s t hi => by
    rw [List.length_reverse, ← r.length] at hi
    exact ⟨hi, xs, xs[xs.length - 1 - i]'(by omega), SqL.of (t _ _ (s _ _ h)), by rw [List.getElem?_eq_getElem]⟩
  stop := fun i G2 H2 s t hi => by rw [List.length_reverse, ← r.length] at hi; exact hi
  yld := fun i G2 H2 x H' s t hi ⟨e, q⟩ => by
    subst e
    rw [List.length_reverse] at hi
    obtain ⟨d, h1, h2⟩ := r.of_at (q xs (SqL.of (t _ _ (s _ _ h))))
    refine ⟨G2, d, Gro.refl, t, ?_, h2.up s⟩
    rw [List.getElem?_reverse hi, ← r.length]
    exact h1
def zipD : List PyData → List PyData → List PyData
  | x :: xs, y :: ys => .tuple [x, y] :: zipD xs ys
  | _, _ => []
theorem zipD_at : ∀ {xs ys : List PyData} {i : Nat} {x y : PyData}, xs[i]? = some x → ys[i]? = some y → (zipD xs ys)[i]? = some (.tuple [x, y])
  | [], _, _, _, _, h, _ => by simp at h
  | _ :: _, [], _, _, _, _, h => by simp at h
  | a :: xs, b :: ys, 0, x, y, h1, h2 => by simp at h1 h2; subst h1 h2; rfl
  | a :: xs, b :: ys, i + 1, x, y, h1, h2 => by
    have := zipD_at (xs := xs) (ys := ys) (i := i) (x := x) (y := y) (by simpa using h1) (by simpa using h2)
    simpa [zipD] using this
theorem zipD_len : ∀ xs ys : List PyData, (zipD xs ys).length = min xs.length ys.length
  | [], _ => by simp [zipD]
  | _ :: _, [] => by simp [zipD]
  | a :: xs, b :: ys => by simp [zipD, zipD_len xs ys]
theorem src_zip {K : PySem.W.Frag} {G : Hp} {a b : Addr} {xs ys : List V} {ds es : List PyData} (h : G a = some (.lst xs)) (r : RpAll K G xs ds) (h' : G b = some (.lst ys)) (r' : RpAll K G ys es) : Src K G (Itz K a b) (zipD ds es) where
  go := fun i G2 H2 s t hi => by
    rw [zipD_len] at hi
    have h1 : i < xs.length := by rw [r.length]; omega
    have h2 : i < ys.length := by rw [r'.length]; omega
    exact ⟨xs, ys, xs[i], ys[i], SqL.of (t _ _ (s _ _ h)), SqL.of (t _ _ (s _ _ h')), by simp [h1], by simp [h2]⟩
  stop := fun i G2 H2 s t hi => ⟨xs, ys, SqL.of (t _ _ (s _ _ h)), SqL.of (t _ _ (s _ _ h')), by rw [zipD_len] at hi; rw [r.length, r'.length]; omega⟩
  yld := fun i G2 H2 v H' s t hi ⟨T, x, y, e1, hT, e2, q1, q2⟩ => by
    subst e1 e2
    obtain ⟨d, h1, h2⟩ := r.of_at (q1 xs (SqL.of (t _ _ (s _ _ h))))
    obtain ⟨d', h1', h2'⟩ := r'.of_at (q2 ys (SqL.of (t _ _ (s _ _ h'))))
    have en := Gro.new (o := .tup [x, y]) t hT
    exact ⟨_, .tuple [d, d'], en, same_new t, zipD_at h1 h1', .tup upd_same (.cons ((h2.up s).up en.g) (.cons ((h2'.up s).up en.g) .nil))⟩

abbrev DI := List En → (List PyData → Mu → Prop) → (Er → Mu → Prop) → Mu → Prop
def liftI (K : PySem.W.Frag) (W : WX) (di : DI) : TI := fun σ H R => ∃ (P : Pt) (Rd : List PyData → Mu → Prop) (Xn : Er → Mu → Prop), P.ok K H σ ∧ di P.E Rd Xn P.G.M ∧
  (∀ (G' : Gm) H' J items, Ext P.bx P.G H G' H' → (P.go G').ok K H' σ → Src K G' J items → Rd items G'.M → R J H') ∧ ErTo K W P σ Xn
abbrev QI (X : Cx) (W : WX) (tg iter : Expr) (di : DI) : Prop := PI X tg iter (liftI X.K W di)
/-- a list, a tuple, a text -/
def seqD : PyData → Option (List PyData)
  | .list ds => some ds
  | .tuple ds => some ds
  | .str z => some (signsD z)
  | _ => none
def iSeqD (de : DE) : DI := fun E R Xn => de E (fun d M => ∃ ds, seqD d = some ds ∧ R ds M) Xn
def iRngD (da : DE) : DI := fun E R Xn => da E (fun d M => ∃ j : Int, d = .int j ∧ -(2 ^ 62) ≤ j ∧ j < 2 ^ 62 ∧ R (rngD 0 j.toNat) M) Xn
def iEnumD (da : DE) : DI := fun E R Xn => da E (fun d M => ∃ ds, d = .list ds ∧ R (enumD ds) M) Xn
def iRevD (da : DE) : DI := fun E R Xn => da E (fun d M => ∃ ds, d = .list ds ∧ R ds.reverse M) Xn
def iZipD (da db : DE) : DI := fun E R Xn => da E (fun d => db E (fun d' M => ∃ ds es, d = .list ds ∧ d' = .list es ∧ R (zipD ds es) M) Xn) Xn
def iSq (K : PySem.W.Frag) (tl : TE) : TI := fun σ H R => tl σ H fun x H1 => (∃ a, x = .ref a ∧ (∃ xs, SqL K H1 a xs) ∧ R (Itl K a) H1) ∨ (∃ a, x = .ref a ∧ (∃ xs, SqT K H1 a xs) ∧ R (Itt K a) H1) ∨ ∃ z, x = .str z ∧ R (Its z) H1
section
variable {X : Cx} {W : WX} {tg e e2 : Expr} {es : List Expr} {pos p : Pos} {de db : DE}
theorem pi_sq {tl : TE} (hl : PE X e tl) : PI X tg e (iSq X.K tl) := by
  refine ⟨fun pins s σ H R I h => ?_⟩
  refine thn (hl.run pins s σ H _ I h) fun v s1 ⟨x, H1, I1, r1, q1⟩ => ?_
  rcases q1 with ⟨a, e, ⟨xs, hq⟩, q⟩ | ⟨a, e, ⟨xs, hq⟩, q⟩ | ⟨z, ex, q⟩
  · subst e
    cases r1
    obtain ⟨its, rv, p, hz⟩ := I1.list hq
    refine wpAny_pyIter_list p.isList ?_
    refine ⟨s1.heap.objs.size, [s1.heap.objs.size], _, _, H1, rfl, I1.kept (t' := s1.toks) fun b o e => Heap.get?_push_of_some _ e, turn_list a _, ⟨_, Heap.get?_push_size _ rfl, rfl, rfl⟩, fun b hb => ?_, q⟩
    have e : b = s1.heap.objs.size := by simpa using hb
    subst e
    exact I1.fpOk (Nat.le_refl _) (I1.hok.fresh (Nat.le_refl _))
  · subst e
    cases r1
    obtain ⟨its, rv, p, hz⟩ := I1.tuple hq
    refine wpAny_pyIter_tuple (show s1.heap.IsTuple a its.toArray from p) ?_
    refine ⟨s1.heap.objs.size, [s1.heap.objs.size], _, _, H1, rfl, I1.kept (t' := s1.toks) fun b o e => Heap.get?_push_of_some _ e, turn_tuple a _, ⟨_, Heap.get?_push_size _ rfl, rfl, rfl⟩, fun b hb => ?_, q⟩
    have e : b = s1.heap.objs.size := by simpa using hb
    subst e
    exact I1.fpOk (Nat.le_refl _) (I1.hok.fresh (Nat.le_refl _))
  · subst ex
    obtain ⟨t, rfl⟩ := r1
    cases ha : z.cps.all (· < 128)
    · exact wpAny_pyIter_wide ha (pi_one (tk := s1.toks) I1 _ (turn_str _ z t "str_iterator" (.inr rfl)) ⟨_, Heap.get?_push_size _ rfl, rfl, rfl⟩ q)
    · exact wpAny_pyIter_ascii ha (pi_one (tk := s1.toks) I1 _ (turn_str _ z t "str_ascii_iterator" (.inl rfl)) ⟨_, Heap.get?_push_size _ rfl, rfl, rfl⟩ q)
theorem pi_imp {iter : Expr} {t t' : TI} (h : PI X tg iter t) (i : ∀ σ H Q, t' σ H Q → t σ H Q) : PI X tg iter t' := ⟨fun pins s σ H Q I q => h.run pins s σ H Q I (i σ H Q q)⟩
theorem i_seq (h : QE X W e de) : QI X W tg e (iSeqD de) := pi_imp (pi_sq h) fun σ H Q ⟨P, R, Xn, S, h, k, kx⟩ =>
  ⟨P, _, Xn, S, h, fun v G1 H1 d e1 S1 r1 ⟨ds, ed, hR⟩ => (by
    cases r1 with
    | @lst a xs ds h a1 => cases ed; exact .inl ⟨a, rfl, ⟨xs, SqL.of (S1.w.s _ _ h)⟩, k G1 H1 _ _ e1 S1 (src_list h a1) hR⟩
    | @tup a xs ds h a1 => cases ed; exact .inr (.inl ⟨a, rfl, ⟨xs, SqT.of (S1.w.s _ _ h)⟩, k G1 H1 _ _ e1 S1 (src_tup h a1) hR⟩)
    | str z => cases ed; exact .inr (.inr ⟨z, rfl, k G1 H1 _ _ e1 S1 src_str hR⟩)
    | _ => cases ed), kx⟩
theorem one_arg {K : PySem.W.Frag} {de : DE} {σ : L2.St} {H : Hp} {P : Pt} {Q : V → Hp → Prop} {R : PyData → Mu → Prop} {Xn : Er → Mu → Prop} (S : P.ok K H σ) (h : de P.E R Xn P.G.M) (kx : ErTo K W P σ Xn)
    (k : ∀ v (G1 : Gm) H1 d, Ext P.bx P.G H G1 H1 → (P.go G1).ok K H1 σ → Rp K G1 v d → R d G1.M → Q v H1) : liftE K W de σ H Q := ⟨P, R, Xn, S, h, k, kx⟩
theorem i_rng (hm : X.mg "range" = none) (h : QE X W e de) (hg : Gl X "range" := by rfl) (hs : starEach [e] X.env = [(false, eval e X.env)] := by rfl) : QI X W tg (.Call (.Name "range" p) [e] [] pos) (iRngD de) :=
  pi_imp (pi_range1 hg hm (pa_cons h pa_nil (by rw [hs]; rfl)) hs) fun σ H Q ⟨P, R, Xn, S, h, k, kx⟩ =>
  ⟨P, _, Xn, S, h, fun v G1 H1 d e1 S1 r1 ⟨j, ed, h1, h2, hR⟩ => by
    subst ed
    cases r1
    exact ⟨j, rfl, h1, h2, k G1 H1 _ _ e1 S1 src_rng hR⟩, kx⟩
theorem i_enum {elts : List Expr} {kk : Nat} {tpos : Pos} (hm : X.mg "enumerate" = none) (h : QE X W e de) (hg : Gl X "enumerate" := by rfl) (hs : starEach [e] X.env = [(false, eval e X.env)] := by rfl) : QI X W (.Tuple elts kk tpos) (.Call (.Name "enumerate" p) [e] [] pos) (iEnumD de) :=
  pi_imp (pi_enum hg hm (pa_cons h pa_nil (by rw [hs]; rfl)) hs) fun σ H Q ⟨P, R, Xn, S, h, k, kx⟩ =>
  ⟨P, _, Xn, S, h, fun v G1 H1 d e1 S1 r1 ⟨ds, ed, hR⟩ => by
    subst ed
    cases r1 with
    | @lst a xs ds h a1 => exact ⟨a, xs, rfl, SqL.of (S1.w.s _ _ h), k G1 H1 _ _ e1 S1 (src_enum h a1) hR⟩, kx⟩
theorem i_rev (hm : X.mg "reversed" = none) (h : QE X W e de) (hg : Gl X "reversed" := by rfl) (hs : starEach [e] X.env = [(false, eval e X.env)] := by rfl) : QI X W tg (.Call (.Name "reversed" p) [e] [] pos) (iRevD de) :=
  pi_imp (pi_reversed hg hm (pa_cons h pa_nil (by rw [hs]; rfl)) hs) fun σ H Q ⟨P, R, Xn, S, h, k, kx⟩ =>
  ⟨P, _, Xn, S, h, fun v G1 H1 d e1 S1 r1 ⟨ds, ed, hR⟩ => by
    subst ed
    cases r1 with
    | @lst a xs ds h a1 => exact ⟨a, xs, rfl, SqL.of (S1.w.s _ _ h), k G1 H1 _ _ e1 S1 (src_rev h a1) hR⟩, kx⟩
theorem i_zip {elts : List Expr} {kk : Nat} {tpos : Pos} (hm : X.mg "zip" = none) (h : QE X W e de) (h2 : QE X W e2 db) (hg : Gl X "zip" := by rfl) (hs : starEach [e, e2] X.env = (false, eval e X.env) :: starEach [e2] X.env := by rfl) (hs2 : starEach [e2] X.env = (false, eval e2 X.env) :: starEach [] X.env := by rfl) (hpl : (backTo pos (starEach [e2] X.env)).any (·.1) = false := by rfl) :
    QI X W (.Tuple elts kk tpos) (.Call (.Name "zip" p) [e, e2] [] pos) (iZipD de db) :=
  pi_imp (pi_zip hg hm (pa_cons h (pa_cons h2 pa_nil hs2) hs) hs hpl) fun σ H Q ⟨P, R, Xn, S, h, k, kx⟩ =>
  ⟨P, _, Xn, S, h, fun v G1 H1 d e1 S1 r1 h1 => ⟨P.go G1, _, Xn, S1, h1, fun v2 G2 H2 d2 e2 S2 r2 ⟨ds, es, ed, ed2, hR⟩ => by
    subst ed ed2
    have r1 := r1.up e2.g
    cases r1 with
    | @lst a xs ds h a1 =>
      cases r2 with
      | @lst b ys es h' a1' => exact ⟨a, b, xs, ys, rfl, SqL.of (S2.w.s _ _ h), SqL.of (S2.w.s _ _ h'), k G2 H2 _ _ (e1.trans e2) S2 (src_zip h a1 h' a1') hR⟩, kx⟩, kx⟩
end

/-! ### targets: a name, a tuple of names -/
inductive Tgt where
  | nm (i : Nat)
  | tp (is : List Nat)
def Tgt.is : Tgt → List Nat
  | .nm i => [i]
  | .tp is => is
def gNs : List Nat → TGs
  | [] => gNil
  | i :: is => gCons (gName i) (gNs is)
def gT (K : PySem.W.Frag) : Tgt → TG
  | .nm i => gName i
  | .tp is => gTup K is.length (gNs is)
def setAll : List Nat → List PyData → List En → List En
  | i :: is, d :: ds, E => setAll is ds (E.set i (.dat d))
  | _, _, E => E
def tgSet : Tgt → PyData → List En → Option (List En)
  | .nm i, d, E => some (E.set i (.dat d))
  | .tp is, .tuple ds, E => if is.length = ds.length then some (setAll is ds E) else none
  | .tp _, _, _ => none
theorem wipe_in {σ : L2.St} {j : Nat} : ∀ {vs : List Nat}, j ∈ vs → j < σ.length → (wipe σ vs)[j]? = some none
  | [], h, _ => by cases h
  | v :: vs, h, hl => by
    show ((wipe σ vs).set v none)[j]? = some none
    by_cases e : v = j
    · subst e
      rw [List.getElem?_set_self (by rw [wipe_length]; exact hl)]
    · rw [List.getElem?_set_ne e]
      exact wipe_in ((List.mem_cons.mp h).resolve_left (Ne.symm e)) hl
theorem wipe_set {σ : L2.St} {i : Nat} {y : Option V} {vs : List Nat} (h : i ∈ vs) : wipe (σ.set i y) vs = wipe σ vs := by
  apply List.ext_getElem?
  intro j
  by_cases hj : j ∈ vs
  · by_cases hl : j < σ.length
    · rw [wipe_in hj (by simpa using hl), wipe_in hj hl]
    · rw [List.getElem?_eq_none (by rw [wipe_length]; simpa using hl), List.getElem?_eq_none (by rw [wipe_length]; simpa using hl)]
  · rw [wipe_out hj, wipe_out hj, List.getElem?_set_ne fun e => hj (by rw [← e]; exact h)]
theorem wipe_wipe {σ : L2.St} {vs : List Nat} : wipe (wipe σ vs) vs = wipe σ vs := by
  apply List.ext_getElem?
  intro j
  by_cases hj : j ∈ vs
  · by_cases hl : j < σ.length
    · rw [wipe_in hj (by rw [wipe_length]; exact hl), wipe_in hj hl]
    · rw [List.getElem?_eq_none (by rw [wipe_length, wipe_length]; omega), List.getElem?_eq_none (by rw [wipe_length]; omega)]
  · rw [wipe_out hj]
section
variable {bx : Option Bx} {G0 G : Gm} {H0 H : Hp} {K : PySem.W.Frag}
theorem ns_ok : ∀ {is : List Nat} {xs : List V} {ds : List PyData} {σ : L2.St} {E : List En}, SR K bx G0 H0 G H σ E → RpAll K G xs ds → is.length = ds.length →
    ∃ σ', SR K bx G0 H0 G H σ' (setAll is ds E) ∧ (∀ Q : L2.St → Hp → Prop, Q σ' H → gNs is xs σ H Q) ∧ ∀ vs, (∀ i ∈ is, i ∈ vs) → wipe σ' vs = wipe σ vs
  | [], _, _, σ, E, s, .nil, _ => ⟨σ, s, fun Q q => ⟨rfl, q⟩, fun _ _ => rfl⟩
  | _ :: _, [], _, _, _, _, .nil, hl => by simp at hl
  | i :: is, x :: xs, d :: ds, σ, E, s, .cons r t, hl => by
    obtain ⟨σ', s', q, wz⟩ := ns_ok (is := is) (s.setDat (i := i) r) t (by simpa using hl)
    refine ⟨σ', s', fun Q h => ⟨x, xs, rfl, q Q h⟩, fun vs hv => ?_⟩
    rw [wz vs fun j hj => hv j (List.mem_cons_of_mem _ hj)]
    exact wipe_set (hv i List.mem_cons_self)
theorem tg_ok {t : Tgt} {v : V} {x : PyData} {σ : L2.St} {E E' : List En} (s : SR K bx G0 H0 G H σ E) (r : Rp K G v x) (h : tgSet t x E = some E') :
    ∃ σ', SR K bx G0 H0 G H σ' E' ∧ (∀ Q : L2.St → Hp → Prop, Q σ' H → gT K t v σ H Q) ∧ ∀ vs, (∀ i ∈ t.is, i ∈ vs) → wipe σ' vs = wipe σ vs := by
  cases t with
  | nm i =>
    cases h
    exact ⟨_, s.setDat r, fun Q q => q, fun vs hv => wipe_set (hv i List.mem_cons_self)⟩
  | tp is =>
    cases r with
    | @tup a xs ds h1 a1 =>
      have h : (if is.length = ds.length then some (setAll is ds E) else none) = some E' := h
      by_cases hl : is.length = ds.length
      · rw [if_pos hl] at h
        cases h
        obtain ⟨σ', s', q, wz⟩ := ns_ok (is := is) s a1 hl
        exact ⟨σ', s', fun Q h => ⟨a, xs, rfl, SqT.of (s.w.s _ _ h1), by rw [a1.length, hl], q Q h⟩, wz⟩
      · rw [if_neg hl] at h; cases h
    | _ => cases h
end
section
variable {X : Cx} {pos : Pos}
theorem g_nm {x : Str} (i : Nat) (h : PG X (.Name x pos) (gName i)) : PG X (.Name x pos) (gT X.K (.nm i)) := h
theorem g_tp {es : List Expr} {k : Nat} {is : List Nat} (hc : X.calm = true) (h : PGs X es (gNs is)) (hn : (assignEach es X.env).length = is.length := by rfl) (hst : (assignEach es X.env).findIdx? (·.1) = none := by rfl) : PG X (.Tuple es k pos) (gT X.K (.tp is)) := pg_tup hc h hn hst
theorem gs_nil : PGs X [] (gNs []) := pgs_nil
theorem gs_cons {e : Expr} {es : List Expr} {i : Nat} {is : List Nat} (h1 : PG X e (gName i)) (h2 : PGs X es (gNs is)) (hs : (assignEach (e :: es) X.env).map (·.2) = assign e X.env :: (assignEach es X.env).map (·.2) := by rfl) : PGs X (e :: es) (gNs (i :: is)) := pgs_cons h1 h2 hs
end

/-! ### comprehensions -/
def wipeE : List En → List Nat → List En
  | E, [] => E
  | E, v :: vs => (wipeE E vs).set v .un
theorem SR.wipes {K : PySem.W.Frag} {bx : Option Bx} {G0 G : Gm} {H0 H : Hp} {σ : L2.St} {E : List En} (s : SR K bx G0 H0 G H σ E) : ∀ vs : List Nat, SR K bx G0 H0 G H (L2.wipe σ vs) (wipeE E vs)
  | [] => s
  | v :: vs => (s.wipes vs).wipe
/-- what is made of the items, one after another -/
def lcGo (tg : Tgt) (dt : DT) (de : DE) (E : List En) (R : List PyData → Mu → Prop) : List PyData → List PyData → Mu → Prop
  | [], acc => R acc
  | x :: r, acc => fun M => ∃ E', tgSet tg x E = some E' ∧ dt E' (fun b M => (b = true → de E' (fun y M => acc.length < sizeLine ∧ lcGo tg dt de E R r (acc ++ [y]) M) XF M) ∧ (b = false → lcGo tg dt de E R r acc M)) XF M
def dLc (di : DI) (tg : Tgt) (dt : DT) (de : DE) (vs : List Nat) : DF := fun E R Xn => di E (fun items => lcGo tg dt de (wipeE E vs) R items []) Xn
def dYes : DT := fun _ R _ M => R true M
abbrev WF : WX := fun _ _ _ _ => False
section
variable {X : Cx} {W : WX}
theorem lift_lc {K : PySem.W.Frag} {di : DI} {tg : Tgt} {dt : DT} {de : DE} {vs : List Nat} (hv : ∀ i ∈ tg.is, i ∈ vs) {σ : L2.St} {H : Hp} {Q : VK} (h : liftF K W (dLc di tg dt de vs) σ H Q) :
    tLc (liftI K W di) (gT K tg) (liftT K WF dt) (liftE K WF de) vs σ H Q := by
  obtain ⟨P, R, Xn, S, h, k, kx⟩ := h
  refine ⟨P, _, Xn, S, h, fun G1 H1 J items e1 S1 src h1 => ?_, kx⟩
  intro D hD
  have off : Off P.bx D := S1.w.off hD
  -- the invariant: what is made so far, what is left
  refine ⟨fun i m H2 => ∃ (G2 : Gm) (acc : List PyData) (ys : List V), m = items.length - i ∧ i ≤ items.length ∧ Ext P.bx G1 H1 G2 H2 ∧ (P.go G2).ok K H2 σ ∧ (G2 D = none ∧ G2.M D = none) ∧ H2 D = some (.lst ys) ∧ RpAll K G2 ys acc ∧ lcGo tg dt de (wipeE P.E vs) R (items.drop i) acc G2.M, ?_, ?_⟩
  · have en : Gro G1.G H1 G1.G (upd H1 D (.lst [])) := Gro.own hD
    exact ⟨items.length, G1, [], [], rfl, Nat.zero_le _, en.any, S1.pure en (same_own S1.w.s hD), ⟨S1.w.s.free hD, S1.w.m_none hD⟩, upd_same, .nil, h1⟩
  · rintro i m H2 ⟨G2, acc, ys, rfl, hi, e2, S2, ⟨gD, mD⟩, hD2, ra, go⟩
    by_cases hlt : i < items.length
    · refine .inr ⟨src.go i G2.G H2 e2.g S2.w.s hlt, fun H3 => ∃ (G3 : Gm) (acc : List PyData) (ys : List V), Ext P.bx G1 H1 G3 H3 ∧ (P.go G3).ok K H3 σ ∧ (G3 D = none ∧ G3.M D = none) ∧ H3 D = some (.lst ys) ∧ RpAll K G3 ys acc ∧ lcGo tg dt de (wipeE P.E vs) R (items.drop (i + 1)) acc G3.M, fun H3 ⟨G3, acc3, ys3, q1, q2, q3, q4, q5, q6⟩ => ⟨items.length - (i + 1), by omega, G3, acc3, ys3, rfl, hlt, q1, q2, q3, q4, q5, q6⟩, fun x H3 hy => ?_⟩
      obtain ⟨G3, d, e3, s3, hd, r3⟩ := src.yld i G2.G H2 x H3 e2.g S2.w.s hlt hy
      have S3 : SR K P.bx P.G0 P.H0 ⟨G3, G2.M⟩ H3 σ P.E := S2.pure e3 s3
      have e3' : Ext P.bx G2 H2 ⟨G3, G2.M⟩ H3 := e3.any
      have hD3 := e3.s D _ hD2
      have gD3 : (⟨G3, G2.M⟩ : Gm).G D = none := e3'.g_none mD gD hD2
      rw [show items.drop i = d :: items.drop (i + 1) by rw [List.drop_eq_getElem_cons hlt]; congr 1; rw [List.getElem?_eq_getElem hlt] at hd; exact Option.some.inj hd] at go
      obtain ⟨E', hE, go⟩ := go
      obtain ⟨σ', S4, gq, wz⟩ := tg_ok (K := K) (S3.wipes vs) r3 hE
      refine gq _ ⟨(wz vs hv).trans wipe_wipe, ?_⟩
      refine ⟨⟨P.bx, P.G0, P.H0, ⟨G3, G2.M⟩, E'⟩, _, _, S4, go, fun b G5 H5 e5 S5 ⟨h5, h6⟩ => ?_, fun _ _ _ _ _ _ _ f => f.elim⟩
      have gD5 : ∀ {G6 : Gm} {H6 : Hp}, Ext P.bx ⟨G3, G2.M⟩ H3 G6 H6 → (G6 D = none ∧ G6.M D = none) ∧ H6 D = some (.lst ys) := fun {G6 H6} e6 => ⟨⟨e6.g_none mD gD3 hD3, e6.m_none mD hD3⟩, e6.h D _ off mD hD3⟩
      have e135 : ∀ {G6 : Gm} {H6 : Hp}, Ext P.bx ⟨G3, G2.M⟩ H3 G6 H6 → Ext P.bx G1 H1 G6 H6 := fun e6 => e2.trans (e3'.trans e6)
      cases b with
      | false =>
        obtain ⟨g1, g2⟩ := gD5 e5
        exact ⟨G5, acc, ys, e135 e5, S3.ext e5 S5.w, g1, g2, ra.up (e3.g.trans e5.g), h6 rfl⟩
      | true =>
        refine ⟨⟨P.bx, P.G0, P.H0, G5, E'⟩, _, _, S5, h5 rfl, fun y G6 H6 d6 e6 S6 r6 ⟨hz, go⟩ => ?_, fun _ _ _ _ _ _ _ f => f.elim⟩
        obtain ⟨⟨g1, m1⟩, g2⟩ := gD5 (e5.trans e6)
        have ra6 : RpAll K G6 ys acc := ra.up (e3.g.trans (e5.g.trans e6.g))
        have S7 : SR K P.bx P.G0 P.H0 G6 H6 σ P.E := S3.ext (e5.trans e6) S6.w
        refine ⟨ys, g2, by rw [ra6.length]; exact hz, G6, acc ++ [d6], ys ++ [y], ?_, ?_, ⟨g1, m1⟩, upd_same, ra6.app (.cons r6 .nil), go⟩
        · have e := e135 (e5.trans e6)
          exact ⟨e.g, fun a o n m q => by rw [upd_ne (ne_of_none q hD)]; exact e.h a o n m q, e.n, fun a o q => by
            rw [upd_ne (ne_of_none q hD)]; exact e.al a o q, e.m⟩
        · exact S7.poke (S1.x.none_of hD) g1 m1 off fun j es q hσ => S1.no_own hD j es q hσ
    · have ei : i = items.length := by omega
      subst ei
      rw [List.drop_length] at go
      exact .inl ⟨src.stop _ G2.G H2 e2.g S2.w.s (Nat.le_refl _), k D ys G2 H2 acc (e1.trans e2) S2 (e1.none_of hD) gD mD hD2 ra go⟩
theorem f_lc {elt tgE iter : Expr} {ifs : List Expr} {scope : Scope} {own : List (Str × Nat)} {pos : Pos} {di : DI} {tg : Tgt} {dt : DT} {de : DE} (hc : X.calm = true) (hN : X.N.Nodup) (hi : QI X W tgE iter di) (ok : blkC X.N X.env.scope scope own = true) (hv : ∀ i ∈ tg.is, i ∈ own.map (·.2))
    (hg : ∀ (s : Shared) (H : Hp) (C : Addr) (cl : List (Str × Addr)) (fp : List Addr), PG (X.blk s H scope (compEnvC scope cl C X.env) fp) tgE (gT X.K tg)) (ht : ∀ (s : Shared) (H : Hp) (C : Addr) (cl : List (Str × Addr)) (fp : List Addr), PTs (X.blk s H scope (compEnvC scope cl C X.env) fp) ifs (liftT X.K WF dt))
    (he : ∀ (s : Shared) (H : Hp) (C : Addr) (cl : List (Str × Addr)) (fp : List Addr), QE (X.blk s H scope (compEnvC scope cl C X.env) fp) WF elt de) (hs : ∀ x, foldedSetIterable iter X.env x = pure x := by intro _; rfl) :
    QF X W (.ListComp elt [⟨tgE, iter, ifs, 0⟩] scope pos) (dLc di tg dt de (own.map (·.2))) := pe_imp (pe_lc hc hN hi (blkOk_by ok) hg ht he hs) fun _ _ _ => lift_lc hv
theorem ts_nil : PTs X [] (liftT X.K W dYes) := ⟨fun pins s σ H Q I ⟨P, R, Xn, S, h, k, kx⟩ => pts_nil.run pins s σ H Q I (k true P.G H Ext.refl S h)⟩
theorem ts_one {c : Expr} {dt : DT} (h : QT X W c dt) : PTs X [c] (liftT X.K W dt) := pts_one h
end
end Wx

namespace Wx
open PySem PySem.Spec PyProof.Rows L2

theorem Ext.up0 {bx : Option Bx} {G0 G1 G : Gm} {H0 H1 H : Hp} (e : Ext bx G0 H0 G1 H1) (f : Ext bx ⟨G1.G, G0.M⟩ H0 G H) : Ext bx G0 H0 G H := ⟨e.g.trans f.g, f.h, fun a o q => by
  rcases f.n a o q with z | z
  · exact e.n a o z
  · exact .inr z, f.al, f.m⟩
theorem Ext.re0 {bx : Option Bx} {G0 G : Gm} {G1 H0 H : Hp} (e : Ext bx G0 H0 G H) (g : Same G0.G G1) (g' : Same G1 G.G) : Ext bx ⟨G1, G0.M⟩ H0 G H := ⟨g', e.h, fun a o q => by
  rcases e.n a o q with z | z
  · exact .inl (g a o z)
  · exact .inr z, e.al, e.m⟩
theorem SR.up0 {K : PySem.W.Frag} {bx : Option Bx} {G0 G1 G : Gm} {H0 H1 H : Hp} {σ : L2.St} {E : List En} (s : SR K bx ⟨G1.G, G0.M⟩ H0 G H σ E) (e : Ext bx G0 H0 G1 H1) : SR K bx G0 H0 G H σ E := ⟨s.len, e.up0 s.x, s.w, s.e, s.d⟩
theorem SR.re0 {K : PySem.W.Frag} {bx : Option Bx} {G0 G : Gm} {G1 H0 H : Hp} {σ : L2.St} {E : List En} (s : SR K bx G0 H0 G H σ E) (g : Same G0.G G1) (g' : Same G1 G.G) : SR K bx ⟨G1, G0.M⟩ H0 G H σ E := ⟨s.len, s.x.re0 g g', s.w, s.e, s.d⟩

/-! ### statements over data -/
/-- what is wanted behind a statement: what follows, a value, a new list of one's own handed back, a break, a continue, an error -/
structure DEnds where
  nx : List En → Mu → Prop
  rt : PyData → Mu → Prop := fun _ _ => False
  ro : List PyData → Mu → Prop := fun _ _ => False
  bk : List En → Mu → Prop := fun _ _ => False
  ct : List En → Mu → Prop := fun _ _ => False
  ex : Er → List En → Mu → Prop := fun _ _ _ => False
abbrev DS := DEnds → List En → Mu → Prop
structure Link (K : PySem.W.Frag) (W : WX) (bx : Option Bx) (G0 : Gm) (H0 : Hp) (R : DEnds) (D : Ends) : Prop where
  nx : ∀ (G : Gm) H σ E, SR K bx G0 H0 G H σ E → R.nx E G.M → D.nx σ H
  rt : ∀ v (G : Gm) H d, Ext bx G0 H0 G H → Wo K bx G H → Rp K G v d → R.rt d G.M → D.rt v H
  ro : ∀ p xs (G : Gm) H ds, Ext bx G0 H0 G H → Wo K bx G H → H0 p = none → G p = none → G.M p = none → H p = some (.lst xs) → RpAll K G xs ds → R.ro ds G.M → D.rt (.ref p) H
  bk : ∀ (G : Gm) H σ E, SR K bx G0 H0 G H σ E → R.bk E G.M → D.bk σ H
  ct : ∀ (G : Gm) H σ E, SR K bx G0 H0 G H σ E → R.ct E G.M → D.ct σ H
  ex : ∀ x cls dd (G : Gm) H σ E, SR K bx G0 H0 G H σ E → ErOk K G H x cls dd → R.ex x E G.M → W cls dd σ H
def liftS (K : PySem.W.Frag) (W : WX) (ds : DS) : TS := fun D σ H => ∃ (P : Pt) (R : DEnds), P.ok K H σ ∧ ds R P.E P.G.M ∧ Link K W P.bx P.G0 P.H0 R D
abbrev QS (X : Cx) (W : WX) (st : Stmt) (ds : DS) : Prop := PS X st (liftS X.K W ds)
abbrev QSs (X : Cx) (W : WX) (st : List Stmt) (ds : DS) : Prop := PSs X st (liftS X.K W ds)
theorem Link.err {K : PySem.W.Frag} {W : WX} {P : Pt} {R : DEnds} {D : Ends} (L : Link K W P.bx P.G0 P.H0 R D) {σ : L2.St} : ErTo K W P σ (fun x => R.ex x P.E) := fun x cls dd G' H' S er hx => L.ex x cls dd G' H' σ P.E S er hx
def dNext : DS := fun R E => R.nx E
def dSeq (a b : DS) : DS := fun R E => a { R with nx := b R } E
def dSet (i : Nat) (de : DE) : DS := fun R E => de E (fun d => R.nx (E.set i (.dat d))) (fun x => R.ex x E)
def dSetT (t : Tgt) (de : DE) : DS := fun R E => de E (fun d M => ∃ E', tgSet t d E = some E' ∧ R.nx E' M) (fun x => R.ex x E)
def dSetO (i : Nat) (df : DF) : DS := fun R E => df E (fun ds => R.nx (E.set i (.own ds))) (fun x => R.ex x E)
def dDrop (de : DE) : DS := fun R E => de E (fun _ => R.nx E) (fun x => R.ex x E)
def dRet (de : DE) : DS := fun R E => de E R.rt (fun x => R.ex x E)
def dRetF (df : DF) : DS := fun R E => df E R.ro (fun x => R.ex x E)
def dRetN : DS := fun R _ => R.rt .none
/-- a list of one's own handed back: as such; frozen -/
def dRetO (i : Nat) : DS := fun R E M => ∃ ds, E[i]? = some (.own ds) ∧ R.ro ds M
def dRetL (i : Nat) : DS := fun R E M => ∃ ds, E[i]? = some (.own ds) ∧ R.rt (.list ds) M
def dIfS (t : DT) (a b : DS) : DS := fun R E => t E (fun c M => (c = true → a R E M) ∧ (c = false → b R E M)) (fun x => R.ex x E)
def dBreak : DS := fun R E => R.bk E
def dCont : DS := fun R E => R.ct E
def forGo (t : Tgt) (body : DS) (R : DEnds) : List PyData → List En → Mu → Prop
  | [], E, M => R.nx E M
  | x :: r, E, M => ∃ E', tgSet t x E = some E' ∧ body { R with nx := forGo t body R r, ct := forGo t body R r, bk := R.nx } E' M
def dFor (di : DI) (t : Tgt) (body : DS) : DS := fun R E => di E (fun items => forGo t body R items E) (fun x => R.ex x E)
def dWhile (t : DT) (body : DS) : DS := fun R E M => ∃ W : Nat → List En → Mu → Prop, (∃ m, W m E M) ∧ ∀ m E M, W m E M → t E (fun c M => (c = true → body { R with nx := fun E' M' => ∃ m', m' < m ∧ W m' E' M', ct := fun E' M' => ∃ m', m' < m ∧ W m' E' M', bk := R.nx } E M) ∧ (c = false → R.nx E M)) (fun x => R.ex x E) M
/-- from here on a list of one's own is frozen -/
def dFrz (i : Nat) (ds : DS) : DS := fun R E M => ∃ xs, E[i]? = some (.own xs) ∧ ds R (E.set i (.dat (.list xs))) M
/-- found.append(e) -/
def dApp (i : Nat) (de : DE) : DS := fun R E M => ∃ ds, E[i]? = some (.own ds) ∧ de E (fun d M => ds.length < sizeLine ∧ R.nx (E.set i (.own (ds ++ [d]))) M) (fun x => R.ex x E) M
/-- found[a] = e -/
def dPut (i : Nat) (di de : DE) : DS := fun R E => de E (fun d M => ∃ ds, E[i]? = some (.own ds) ∧ di E (fun z M => ∃ k j, z = .int k ∧ ixN ds.length k = some j ∧ R.nx (E.set i (.own (ds.set j d))) M) (fun x => R.ex x E) M) (fun x => R.ex x E)
/-- found.insert(a, e) -/
def dIns (i : Nat) (di de : DE) : DS := fun R E M => ∃ ds, E[i]? = some (.own ds) ∧ di E (fun z => de E (fun d M => ∃ k, z = .int k ∧ ds.length < sizeLine ∧ 0 ≤ k ∧ k < 2 ^ 63 ∧ R.nx (E.set i (.own (ds.take k.toNat ++ [d] ++ ds.drop k.toNat))) M) (fun x => R.ex x E)) (fun x => R.ex x E) M
/-- raise X('..') -/
def dRaise (n : Str) : DS := fun R E => R.ex (n, none) E
section
variable {X : Cx} {W : WX} {pos : Pos} {st : Stmt} {rest sts : List Stmt} {e : Expr} {de di dv : DE} {df : DF} {da db : DS} {dt : DT}
theorem ss_nil : QSs X W [] dNext := pss_imp pss_nil fun D σ H ⟨P, R, S, h, L⟩ => L.nx P.G H σ P.E S h
theorem ss_cons (h1 : QS X W st da) (h2 : QSs X W rest db) : QSs X W (st :: rest) (dSeq da db) := pss_imp (pss_cons h1 h2) fun D σ H ⟨P, R, S, h, L⟩ =>
  ⟨P, _, S, h, ⟨fun G H' σ' E S' h' => ⟨⟨P.bx, P.G0, P.H0, G, E⟩, R, S', h', L⟩, L.rt, L.ro, L.bk, L.ct, L.ex⟩⟩
theorem ss_one (h : QS X W st da) : QSs X W [st] da := pss_one h
theorem s_asg_of {tg : Expr} {i : Nat} {t : TS} (h : PS X st (tAsg (liftE X.K W de) (gName i))) : QS X W st (dSet i de) := ps_imp h fun D σ H ⟨P, R, S, h, L⟩ =>
  ⟨P, _, _, S, h, fun v G1 H1 d e1 S1 r1 h1 => L.nx G1 H1 _ _ (S1.setDat r1) h1, L.err⟩
theorem s_set {i : Nat} {x : Str} {pos' : Pos} (hN : X.N.Nodup) (hi : X.N[i]? = some x) (hx : Loc X.env.scope x) (he : QE X W e de) (hs : swapsWith e (some (.Name x pos')) pos.line X.env = pure false := by rfl) (hf : X.fn x = true ∨ X.env.scope.names.lookup x = some .local := by first | exact .inl rfl | exact .inr rfl | assumption) :
    QS X W (.Assign [.Name x pos'] e pos) (dSet i de) := ps_imp (ps_set hN hi hx he hs hf) fun D σ H ⟨P, R, S, h, L⟩ =>
  ⟨P, _, _, S, h, fun v G1 H1 d e1 S1 r1 h1 => L.nx G1 H1 _ _ (S1.setDat r1) h1, L.err⟩
theorem s_setO {i : Nat} {x : Str} {pos' : Pos} (hN : X.N.Nodup) (hi : X.N[i]? = some x) (hx : Loc X.env.scope x) (he : QF X W e df) (hs : swapsWith e (some (.Name x pos')) pos.line X.env = pure false := by rfl) (hf : X.fn x = true ∨ X.env.scope.names.lookup x = some .local := by first | exact .inl rfl | exact .inr rfl | assumption) :
    QS X W (.Assign [.Name x pos'] e pos) (dSetO i df) := ps_imp (ps_set hN hi hx he hs hf) fun D σ H ⟨P, R, S, h, L⟩ =>
  ⟨P, _, _, S, h, fun p xs G1 H1 ds e1 S1 hp gp mp hx rr h1 => L.nx G1 H1 _ _ (S1.nameOwn (S.x.none_of hp) gp mp hx rr (S.w.off hp) (fun j es q hσ => S.no_own hp j es q hσ)) h1, L.err⟩
theorem s_setT {tg : Expr} {t : Tgt} (he : QE X W e de) (hg : PG X tg (gT X.K t)) (hs : swapsWithSole [tg] e pos.line X.env = pure false := by rfl) (hw : swappedStores [tg] e X.env = pure none := by rfl) (h1 : (assignEach [tg] X.env).map (·.2) = [assign tg X.env] := by rfl) : QS X W (.Assign [tg] e pos) (dSetT t de) :=
  ps_imp (ps_asg he hg hs hw h1) fun D σ H ⟨P, R, S, h, L⟩ => ⟨P, _, _, S, h, fun v G1 H1 d e1 S1 r1 ⟨E', hE, h1⟩ => by
    obtain ⟨σ', S2, gq, _⟩ := tg_ok (K := X.K) S1 r1 hE
    exact gq _ (L.nx G1 H1 σ' E' S2 h1), L.err⟩
theorem s_expr (he : QE X W e de) (hs : swapsWith e none pos.line X.env = pure false := by rfl) : QS X W (.Expr e pos) (dDrop de) := ps_imp (ps_expr he hs) fun D σ H ⟨P, R, S, h, L⟩ =>
  ⟨P, _, _, S, h, fun v G1 H1 d e1 S1 r1 h1 => L.nx G1 H1 σ _ S1 h1, L.err⟩
theorem s_ret (he : QE X W e de) : QS X W (.Return (some e) pos) (dRet de) := ps_imp (ps_ret he) fun D σ H ⟨P, R, S, h, L⟩ =>
  ⟨P, _, _, S, h, fun v G1 H1 d e1 S1 r1 h1 => L.rt v G1 H1 d S1.x S1.w r1 h1, L.err⟩
theorem s_retF (he : QF X W e df) : QS X W (.Return (some e) pos) (dRetF df) := ps_imp (ps_ret he) fun D σ H ⟨P, R, S, h, L⟩ =>
  ⟨P, _, _, S, h, fun p xs G1 H1 ds e1 S1 hp gp mp hx rr h1 => L.ro p xs G1 H1 ds S1.x S1.w (S.x.none_of hp) gp mp hx rr h1, L.err⟩
theorem s_retN : QS X W (.Return none pos) dRetN := ps_imp ps_retN fun D σ H ⟨P, R, S, h, L⟩ => L.rt .non P.G H .none S.x S.w .non h
theorem s_retO (i : Nat) {x : Str} {p : Pos} (he : PE X (.Name x p) (tVar i)) : QS X W (.Return (some (.Name x p)) pos) (dRetO i) := ps_imp (ps_ret he) fun D σ H ⟨P, R, S, ⟨ds, hi, h⟩, L⟩ => by
  obtain ⟨p, xs, z1, z2, z3, z4, z5, z6⟩ := S.e i _ hi
  exact ⟨_, z1, L.ro p xs P.G H ds S.x S.w z2 z3.1 z3.2 z5 z6 h⟩
theorem s_retL (i : Nat) {x : Str} {p : Pos} (he : PE X (.Name x p) (tVar i)) : QS X W (.Return (some (.Name x p)) pos) (dRetL i) := ps_imp (ps_ret he) fun D σ H ⟨P, R, S, ⟨ds, hi, h⟩, L⟩ => by
  obtain ⟨p, xs, z1, z2, z3, z4, z5, z6⟩ := S.e i _ hi
  obtain ⟨S2, r2⟩ := S.frz hi z1 z5
  exact ⟨_, z1, L.rt _ _ H _ S2.x S2.w r2 h⟩
theorem s_if {c : Expr} {a b : List Stmt} (hc : QT X W c dt) (ha : QSs X W a da) (hb : QSs X W b db) : QS X W (.If c a b pos) (dIfS dt da db) := ps_imp (ps_if hc ha hb) fun D σ H ⟨P, R, S, h, L⟩ =>
  ⟨P, _, _, S, h, fun c G1 H1 e1 S1 ⟨h1, h2⟩ => by
    cases c with
    | true => exact ⟨P.go G1, R, S1, h1 rfl, L⟩
    | false => exact ⟨P.go G1, R, S1, h2 rfl, L⟩, L.err⟩
theorem s_pass : QS X W (.Pass pos) dNext := ps_imp ps_pass fun D σ H ⟨P, R, S, h, L⟩ => L.nx P.G H σ P.E S h
theorem s_break : QS X W (.Break pos) dBreak := ps_imp ps_break fun D σ H ⟨P, R, S, h, L⟩ => L.bk P.G H σ P.E S h
theorem s_cont : QS X W (.Continue pos) dCont := ps_imp ps_continue fun D σ H ⟨P, R, S, h, L⟩ => L.ct P.G H σ P.E S h
theorem ss_frz (i : Nat) (h : QSs X W sts da) : QSs X W sts (dFrz i da) := pss_imp h fun D σ H ⟨P, R, S, ⟨ds, hi, h⟩, L⟩ => by
  obtain ⟨p, xs, z1, z2, z3, z4, z5, z6⟩ := S.e i _ hi
  obtain ⟨S2, _⟩ := S.frz hi z1 z5
  exact ⟨⟨P.bx, P.G0, P.H0, P.G.up p (.lst xs), P.E.set i (.dat (.list ds))⟩, R, S2, h, L⟩
theorem s_for {tg iter : Expr} {body : List Stmt} {di : DI} {t : Tgt} (hp : PassesOwn (model X.prog X.w) X.A X.env X.xe) (hc : X.calm = true) (hi : QI X W tg iter di) (hg : PG X tg (gT X.K t)) (hb : QSs X W body da) (hs : ∀ x, foldedSetIterable iter X.env x = pure x := by intro _; rfl) :
    QS X W (.For tg iter body [] pos) (dFor di t da) := ps_imp (ps_for hp hc hi hg hb hs) fun D σ H ⟨P, R, S, h, L⟩ => by
  refine ⟨P, _, _, S, h, fun G1 H1 J items e1 S1 src h1 => ?_, L.err⟩
  refine ⟨fun i m σ2 H2 => ∃ (G2 : Gm) (E2 : List En), m = items.length - i ∧ i ≤ items.length ∧ Same G1.G G2.G ∧ SR X.K P.bx P.G0 P.H0 G2 H2 σ2 E2 ∧ forGo t da R (items.drop i) E2 G2.M, ⟨items.length, G1, P.E, rfl, Nat.zero_le _, Same.refl _, S1, h1⟩, ?_⟩
  rintro i m σ2 H2 ⟨G2, E2, rfl, hi, g2, S2, go⟩
  by_cases hlt : i < items.length
  · refine .inr ⟨src.go i G2.G H2 g2 S2.w.s hlt, fun σ3 H3 => ∃ (G3 : Gm) (E3 : List En), Same G1.G G3.G ∧ SR X.K P.bx P.G0 P.H0 G3 H3 σ3 E3 ∧ forGo t da R (items.drop (i + 1)) E3 G3.M, fun σ3 H3 ⟨G3, E3, q1, q2, q3⟩ => ⟨items.length - (i + 1), by omega, G3, E3, rfl, hlt, q1, q2, q3⟩, fun x H3 hy => ?_⟩
    obtain ⟨G3, d, e3, s3, hd, r3⟩ := src.yld i G2.G H2 x H3 g2 S2.w.s hlt hy
    have S3 := S2.pure e3 s3
    rw [show items.drop i = d :: items.drop (i + 1) by rw [List.drop_eq_getElem_cons hlt]; congr 1; rw [List.getElem?_eq_getElem hlt] at hd; exact Option.some.inj hd] at go
    obtain ⟨E', hE, go⟩ := go
    obtain ⟨σ', S4, gq, _⟩ := tg_ok (K := X.K) S3 r3 hE
    have gg : Same G1.G G3 := g2.trans e3.g
    refine gq _ ⟨⟨P.bx, ⟨G1.G, P.G0.M⟩, P.H0, ⟨G3, G2.M⟩, E'⟩, _, S4.re0 S1.x.g gg, go, ?_⟩
    exact ⟨fun G H σ E s h => ⟨G, E, s.x.g, s.up0 S1.x, h⟩, fun v G H d e w r h => L.rt v G H d (S1.x.up0 e) w r h, fun p xs G H ds e w hp gp mp hx rr h => L.ro p xs G H ds (S1.x.up0 e) w hp gp mp hx rr h, fun G H σ E s h => L.nx G H σ E (s.up0 S1.x) h, fun G H σ E s h => ⟨G, E, s.x.g, s.up0 S1.x, h⟩, fun x cls dd G H σ E s er h => L.ex x cls dd G H σ E (s.up0 S1.x) er h⟩
  · have ei : i = items.length := by omega
    subst ei
    rw [List.drop_length] at go
    exact .inl ⟨src.stop _ G2.G H2 g2 S2.w.s (Nat.le_refl _), L.nx G2 H2 σ2 E2 S2 go⟩
theorem s_while {c : Expr} {body : List Stmt} (hp : PassesOwn (model X.prog X.w) X.A X.env X.xe) (hc : QT X W c dt) (hb : QSs X W body da) : QS X W (.While c body [] pos) (dWhile dt da) := ps_imp (ps_while hp hc hb) fun D σ H ⟨P, R, S, ⟨V, ⟨m0, v0⟩, h⟩, L⟩ => by
  refine ⟨fun m σ2 H2 => ∃ (G2 : Gm) (E2 : List En), SR X.K P.bx P.G0 P.H0 G2 H2 σ2 E2 ∧ V m E2 G2.M, ⟨m0, P.G, P.E, S, v0⟩, ?_⟩
  rintro m σ2 H2 ⟨G2, E2, S2, v⟩
  refine ⟨⟨P.bx, P.G0, P.H0, G2, E2⟩, _, _, S2, h m E2 G2.M v, fun c G3 H3 e3 S3 ⟨h1, h2⟩ => ?_, fun x cls dd G' H' S' er hx => L.ex x cls dd G' H' _ _ S' er hx⟩
  cases c with
  | false =>
    rw [if_neg Bool.false_ne_true]
    exact L.nx G3 H3 σ2 E2 S3 (h2 rfl)
  | true =>
    rw [if_pos rfl]
    refine ⟨fun σ4 H4 => ∃ m', m' < m ∧ ∃ (G4 : Gm) (E4 : List En), SR X.K P.bx P.G0 P.H0 G4 H4 σ4 E4 ∧ V m' E4 G4.M, fun σ4 H4 q => q, ⟨P.bx, P.G0, P.H0, G3, E2⟩, _, S3, h1 rfl, ?_⟩
    exact ⟨fun G H σ E s ⟨m', hm, q⟩ => ⟨m', hm, G, E, s, q⟩, L.rt, L.ro, L.nx, fun G H σ E s ⟨m', hm, q⟩ => ⟨m', hm, G, E, s, q⟩, L.ex⟩
/-! lists of one's own that change -/
theorem s_app (i : Nat) {x : Str} {p apos cpos : Pos} (h : ∀ te, PE X e te → PS X (.Expr (.Call (.Attribute (.Name x p) "append" apos) [e] [] cpos) pos) (tDrop (tBM X.K "list" rAppend (tVar i) (tCons te tNil)))) (he : QE X W e de) :
    QS X W (.Expr (.Call (.Attribute (.Name x p) "append" apos) [e] [] cpos) pos) (dApp i de) := ps_imp (h _ he) fun D σ H ⟨P, R, S, ⟨ds, hi, h⟩, L⟩ => by
  obtain ⟨p, xs, z1, z2, z3, z4, z5, z6⟩ := S.e i _ hi
  refine ⟨_, z1, .inl ⟨rfl, _, SqL.of z5⟩, P, _, _, S, h, fun v G1 H1 d e1 S1 r1 ⟨hz, h1⟩ => ?_, L.err⟩
  obtain ⟨p2, xs2, y1, y2, y3, y4, y5, y6⟩ := S1.e i _ hi
  rw [z1] at y1
  cases y1
  exact ⟨p, xs2, v, rfl, rfl, y5, by rw [y6.length]; exact hz, L.nx _ _ σ _ (S1.mut hi z1 (y6.app (.cons r1 .nil))) h1⟩
theorem s_put (i : Nat) {x : Str} {a : Expr} {p tpos : Pos} (h : ∀ te ti, PE X e te → PE X a ti → PS X (.Assign [.Subscript (.Name x p) a tpos] e pos) (tAsg te (gSub (tVar i) ti rSetL))) (ha : QE X W a di) (he : QE X W e de) :
    QS X W (.Assign [.Subscript (.Name x p) a tpos] e pos) (dPut i di de) := ps_imp (h _ _ he ha) fun D σ H ⟨P, R, S, h, L⟩ =>
  ⟨P, _, _, S, h, fun v G1 H1 d e1 S1 r1 ⟨ds, hi, h1⟩ => by
    obtain ⟨p, xs, z1, z2, z3, z4, z5, z6⟩ := S1.e i _ hi
    refine ⟨_, z1, P.go G1, _, _, S1, h1, fun w G2 H2 z e2 S2 r2 ⟨k, j, ez, hj, h2⟩ => ?_, L.err⟩
    subst ez
    cases r2
    obtain ⟨p2, xs2, y1, y2, y3, y4, y5, y6⟩ := S2.e i _ hi
    rw [z1] at y1
    cases y1
    exact ⟨p, xs2, k, j, rfl, rfl, y5, by rw [y6.length]; exact hj, L.nx _ _ σ _ (S2.mut hi z1 (y6.st (r1.up e2.g) j)) h2⟩, L.err⟩
def rInsert : V → List V → Hp → VK → Prop := fun x vs H Q => ∃ (l : Addr) (xs : List V) (i : Int) (y : V), x = .ref l ∧ vs = [.int i, y] ∧ H l = some (.lst xs) ∧ xs.length < sizeLine ∧ 0 ≤ i ∧ i < 2 ^ 63 ∧
    Q .non (upd H l (.lst (xs.take i.toNat ++ [y] ++ xs.drop i.toNat)))
theorem s_ins (i : Nat) {x : Str} {a : Expr} {p apos cpos : Pos} (h : ∀ ti te, PE X a ti → PE X e te → PS X (.Expr (.Call (.Attribute (.Name x p) "insert" apos) [a, e] [] cpos) pos) (tDrop (tBM X.K "list" rInsert (tVar i) (tCons ti (tCons te tNil))))) (ha : QE X W a di) (he : QE X W e de) :
    QS X W (.Expr (.Call (.Attribute (.Name x p) "insert" apos) [a, e] [] cpos) pos) (dIns i di de) := ps_imp (h _ _ ha he) fun D σ H ⟨P, R, S, ⟨ds, hi, h⟩, L⟩ => by
  obtain ⟨p, xs, z1, z2, z3, z4, z5, z6⟩ := S.e i _ hi
  refine ⟨_, z1, .inl ⟨rfl, _, SqL.of z5⟩, P, _, _, S, h, fun w G1 H1 z e1 S1 r1 h1 => ⟨P.go G1, _, _, S1, h1, fun v G2 H2 d e2 S2 r2 ⟨k, ez, hz, hk, hk2, h2⟩ => ?_, L.err⟩, L.err⟩
  subst ez
  cases r1
  obtain ⟨p2, xs2, y1, y2, y3, y4, y5, y6⟩ := S2.e i _ hi
  rw [z1] at y1
  cases y1
  exact ⟨p, xs2, k, v, rfl, rfl, y5, by rw [y6.length]; exact hz, hk, hk2, L.nx _ _ σ _ (S2.mut hi z1 (((y6.tk _).app (.cons r2 .nil)).app (y6.dr _))) h2⟩
/-! errors -/
theorem s_raise {n : Str} {e : Expr} {t : L2.St → Hp → XK → Prop} (hc : X.calm = true) (tk : Takes X W) (he : PMk X e t) (ht : ∀ σ H (Q : XK), Q (.ref (He.ga X.K n)) none H → t σ H Q) : QS X W (.Raise (some e) none pos) (dRaise n) :=
  ps_imp (ps_raise hc tk he) fun D σ H ⟨P, R, S, h, L⟩ => ht σ H _ (L.ex (n, none) _ none P.G H σ P.E S ⟨rfl, rfl⟩ h)
end

/-! ### a def keeps its promise -/
def startE (n : Nat) (as : List En) : List En := as ++ List.replicate (n - as.length) .un
theorem argsOk_len {K : PySem.W.Frag} {bx : Option Bx} {G : Hp} : ∀ {vs : List V} {as : List En}, ArgsOk K bx G vs as → vs.length = as.length
  | _, _, .nil => rfl
  | _, _, .cons _ t => by rw [List.length_cons, List.length_cons, argsOk_len t]
theorem argsOk_at {K : PySem.W.Frag} {bx : Option Bx} {G : Hp} : ∀ {vs : List V} {as : List En} {i : Nat} {a : En}, ArgsOk K bx G vs as → as[i]? = some a → ∃ v, vs[i]? = some v ∧ ArgOk K bx G v a
  | _, _, _, _, .nil, e => by simp at e
  | _, _, 0, _, .cons r _, e => by simp at e; subst e; exact ⟨_, rfl, r⟩
  | _, _, i + 1, a, .cons _ t, e => by
    obtain ⟨v, h1, h2⟩ := argsOk_at (i := i) (a := a) t (by simpa using e)
    exact ⟨v, by simpa using h1, h2⟩
theorem start_ok {K : PySem.W.Frag} {bx : Option Bx} {G : Gm} {H : Hp} {N : List Str} {vs : List V} {as : List En} (w : Wo K bx G H) (r : ArgsOk K bx G vs as) : SR K bx G H G H (L2.start N vs) (startE N.length as) := by
  have hl := argsOk_len r
  have ent : ∀ i en, (startE N.length as)[i]? = some en → (en = .un ∨ ∃ v, (L2.start N vs)[i]? = some (some v) ∧ ArgOk K bx G v en) := fun i en q => by
    unfold startE at q
    by_cases hi : i < as.length
    · rw [List.getElem?_append_left hi] at q
      obtain ⟨v, h1, h2⟩ := argsOk_at r q
      refine .inr ⟨v, ?_, h2⟩
      unfold L2.start
      rw [List.getElem?_append_left (by simpa [hl] using hi), List.getElem?_map, h1]
      rfl
    · rw [List.getElem?_append_right (by omega)] at q
      exact .inl (List.eq_of_mem_replicate (List.mem_of_getElem? q))
  refine ⟨by unfold L2.start startE; simp [hl], Ext.refl, w, fun i en q => ?_, fun i j ds es p _ q1 _ _ _ => ?_⟩
  · rcases ent i en q with rfl | ⟨v, h1, h2⟩
    · trivial
    · cases en with
      | un => trivial
      | dat d => exact ⟨v, h1, h2⟩
      | own ds => exact h2.elim
      | box => obtain ⟨z, hz, e⟩ := h2; exact ⟨z, hz, by rw [h1, e]⟩
      | raw u => exact h1.trans (by rw [show v = u from h2])
  · rcases ent i _ q1 with e | ⟨v, _, h2⟩
    · cases e
    · exact h2.elim
section
variable {P : Program} {w : World} {K : PySem.W.Frag} {mg : Str → Option Value} {base : Heap} {x q : Str} {params : Arguments} {body : List Stmt} {scope : Scope} {f : Addr} {fd : FuncData} {N ps : List Str} {k : Nat} {ds : DS}
/-- what is asked of a def's reading, by its kind: F data, O a new list; X: it may raise; M: with cells -/
abbrev PurF (ds : DS) (n : Nat) (sp : DSp) : Prop := ∀ as R Xn, sp as R Xn → ds { nx := fun _ _ => R .none, rt := fun d _ => R d } (startE n as) Mu.no
abbrev PurX (ds : DS) (n : Nat) (sp : DSp) : Prop := ∀ as R Xn, sp as R Xn → ds { nx := fun _ _ => R .none, rt := fun d _ => R d, ex := fun x _ _ => Xn x } (startE n as) Mu.no
abbrev PurO (ds : DS) (n : Nat) (sp : DSpF) : Prop := ∀ as R Xn, sp as R Xn → ds { nx := fun _ _ => False, ro := fun d _ => R d } (startE n as) Mu.no
abbrev PurXO (ds : DS) (n : Nat) (sp : DSpF) : Prop := ∀ as R Xn, sp as R Xn → ds { nx := fun _ _ => False, ro := fun d _ => R d, ex := fun x _ _ => Xn x } (startE n as) Mu.no
abbrev PurM (ds : DS) (n : Nat) (sp : DSpM) : Prop := ∀ as R Xn M, sp as R Xn M → ds { nx := fun _ M => ∃ N : Mu, N.le M ∧ R .none N, rt := fun d M => ∃ N : Mu, N.le M ∧ R d N } (startE n as) M
abbrev PurXM (ds : DS) (n : Nat) (sp : DSpM) : Prop := ∀ as R Xn M, sp as R Xn M → ds { nx := fun _ M => ∃ N : Mu, N.le M ∧ R .none N, rt := fun d M => ∃ N : Mu, N.le M ∧ R d N, ex := fun x _ M => ∃ N : Mu, N.le M ∧ Xn x N } (startE n as) M
/-- a promise that never holds -/
theorem fn_no {sm : DSpM} (h : ∀ as R Xn M, sm as R Xn M → False) {ps : List Str} : FnOk P w K mg base CX0 k f fd ps (spM K sm) :=
  ⟨fun _ _ _ _ ⟨_, G, as, R, Xn, _, _, q, _⟩ => (h as R Xn _ q).elim, fun _ _ _ _ _ _ _ _ _ _ _ _ _ ⟨_, G, as, R, Xn, _, _, q, _⟩ => (h as R Xn _ q).elim⟩
theorem Ext.bare {bx : Option Bx} {G : Hp} {H H' : Hp} {G' : Gm} (e : Ext bx ⟨G, Mu.no⟩ H G' H') : Ext bx ⟨G, Mu.no⟩ H ⟨G'.G, Mu.no⟩ H' := e.less Mu.no_le
theorem Wo.bare {K : PySem.W.Frag} {bx : Option Bx} {H : Hp} {G : Gm} (w : Wo K bx G H) : Wo K bx ⟨G.G, Mu.no⟩ H := w.less Mu.no_le
theorem mkF {sp : DSp} (F : FunD K x q params body scope [] [] f fd) (S : FnScope N ps scope) (len : ∀ as R Xn, sp as R Xn → as.length = ps.length)
    (hb : ∀ (cdv : Value) (A : Around) (outer : List Env) (s : Shared) (H : Hp) (E : XK), Room k (A.deeper (envOfC q scope s.heap.objs.size f cdv)) → QSs (cxOf CX0 P w K mg base N q scope f cdv A outer s H E).nox WF body ds)
    (pure : PurF ds N.length sp) : FnOk P w K mg base CX0 (k + 1) f fd ps (spF K sp) :=
  F.ok S (fun vs H Q E ⟨_, _, as, R, Xn, _, r, h, _⟩ => (argsOk_len r).trans (len as R Xn h)) fun cdv A outer s H vs Q E hr ⟨bx, G, as, R, Xn, wo, r, h, k, kx⟩ =>
  ⟨_, (hb cdv A outer s H E hr).nox, ⟨bx, ⟨G, Mu.no⟩, H, ⟨G, Mu.no⟩, startE N.length as⟩, _, start_ok wo r, pure as R Xn h,
    ⟨fun G' H' σ E s h => k .non G'.G H' .none s.x.bare s.w.bare .non h, fun v G' H' d e w r h => k v G'.G H' d e.bare w.bare r h, fun _ _ _ _ _ _ _ _ _ _ _ _ f => f.elim, fun _ _ _ _ _ f => f.elim, fun _ _ _ _ _ f => f.elim, fun _ _ _ _ _ _ _ _ _ f => f.elim⟩⟩
/-- .. a new list -/
theorem mkO {sp : DSpF} (F : FunD K x q params body scope [] [] f fd) (S : FnScope N ps scope) (len : ∀ as R Xn, sp as R Xn → as.length = ps.length)
    (hb : ∀ (cdv : Value) (A : Around) (outer : List Env) (s : Shared) (H : Hp) (E : XK), Room k (A.deeper (envOfC q scope s.heap.objs.size f cdv)) → QSs (cxOf CX0 P w K mg base N q scope f cdv A outer s H E).nox WF body ds)
    (pure : PurO ds N.length sp) : FnOk P w K mg base CX0 (k + 1) f fd ps (spO K sp) :=
  F.ok S (fun vs H Q E ⟨_, _, as, R, Xn, _, r, h, _⟩ => (argsOk_len r).trans (len as R Xn h)) fun cdv A outer s H vs Q E hr ⟨bx, G, as, R, Xn, wo, r, h, k, kx⟩ =>
  ⟨_, (hb cdv A outer s H E hr).nox, ⟨bx, ⟨G, Mu.no⟩, H, ⟨G, Mu.no⟩, startE N.length as⟩, _, start_ok wo r, pure as R Xn h,
    ⟨fun _ _ _ _ _ f => f.elim, fun _ _ _ _ _ _ _ f => f.elim, fun p xs G' H' ds e w hp gp _ hx rr h => k p xs G'.G H' ds e.bare w.bare hp gp hx rr h, fun _ _ _ _ _ f => f.elim, fun _ _ _ _ _ f => f.elim, fun _ _ _ _ _ _ _ _ _ f => f.elim⟩⟩
/-- what is wanted of an error that leaves the def -/
abbrev WD (E : XK) : WX := fun cls d _ H => E cls d H
theorem mkX {sp : DSp} (F : FunD K x q params body scope [] [] f fd) (S : FnScope N ps scope) (len : ∀ as R Xn, sp as R Xn → as.length = ps.length)
    (hb : ∀ (cdv : Value) (A : Around) (outer : List Env) (s : Shared) (H : Hp) (E : XK), Room k (A.deeper (envOfC q scope s.heap.objs.size f cdv)) → QSs (cxOf (L2.CX P w) P w K mg base N q scope f cdv A outer s H E) (WD E) body ds)
    (pure : PurX ds N.length sp) : FnOk P w K mg base (L2.CX P w) (k + 1) f fd ps (spF K sp) :=
  F.ok S (fun vs H Q E ⟨_, _, as, R, Xn, _, r, h, _⟩ => (argsOk_len r).trans (len as R Xn h)) fun cdv A outer s H vs Q E hr ⟨bx, G, as, R, Xn, wo, r, h, k, kx⟩ =>
  ⟨_, hb cdv A outer s H E hr, ⟨bx, ⟨G, Mu.no⟩, H, ⟨G, Mu.no⟩, startE N.length as⟩, _, start_ok wo r, pure as R Xn h,
    ⟨fun G' H' σ E s h => k .non G'.G H' .none s.x.bare s.w.bare .non h, fun v G' H' d e w r h => k v G'.G H' d e.bare w.bare r h, fun _ _ _ _ _ _ _ _ _ _ _ _ f => f.elim, fun _ _ _ _ _ f => f.elim, fun _ _ _ _ _ f => f.elim, fun x cls dd G' H' σ E s er h => kx x cls dd G'.G H' s.x.bare s.w.bare er h⟩⟩
theorem mkXO {sp : DSpF} (F : FunD K x q params body scope [] [] f fd) (S : FnScope N ps scope) (len : ∀ as R Xn, sp as R Xn → as.length = ps.length)
    (hb : ∀ (cdv : Value) (A : Around) (outer : List Env) (s : Shared) (H : Hp) (E : XK), Room k (A.deeper (envOfC q scope s.heap.objs.size f cdv)) → QSs (cxOf (L2.CX P w) P w K mg base N q scope f cdv A outer s H E) (WD E) body ds)
    (pure : PurXO ds N.length sp) : FnOk P w K mg base (L2.CX P w) (k + 1) f fd ps (spO K sp) :=
  F.ok S (fun vs H Q E ⟨_, _, as, R, Xn, _, r, h, _⟩ => (argsOk_len r).trans (len as R Xn h)) fun cdv A outer s H vs Q E hr ⟨bx, G, as, R, Xn, wo, r, h, k, kx⟩ =>
  ⟨_, hb cdv A outer s H E hr, ⟨bx, ⟨G, Mu.no⟩, H, ⟨G, Mu.no⟩, startE N.length as⟩, _, start_ok wo r, pure as R Xn h,
    ⟨fun _ _ _ _ _ f => f.elim, fun _ _ _ _ _ _ _ f => f.elim, fun p xs G' H' ds e w hp gp _ hx rr h => k p xs G'.G H' ds e.bare w.bare hp gp hx rr h, fun _ _ _ _ _ f => f.elim, fun _ _ _ _ _ f => f.elim, fun x cls dd G' H' σ E s er h => kx x cls dd G'.G H' s.x.bare s.w.bare er h⟩⟩
/-- .. that tells of cells -/
theorem mkM {sp : DSpM} (F : FunD K x q params body scope [] [] f fd) (S : FnScope N ps scope) (len : ∀ as R Xn M, sp as R Xn M → as.length = ps.length)
    (hb : ∀ (cdv : Value) (A : Around) (outer : List Env) (s : Shared) (H : Hp) (E : XK), Room k (A.deeper (envOfC q scope s.heap.objs.size f cdv)) → QSs (cxOf CX0 P w K mg base N q scope f cdv A outer s H E).nox WF body ds)
    (pure : PurM ds N.length sp) : FnOk P w K mg base CX0 (k + 1) f fd ps (spM K sp) :=
  F.ok S (fun vs H Q E ⟨_, G, as, R, Xn, _, r, h, _⟩ => (argsOk_len r).trans (len as R Xn G.M h)) fun cdv A outer s H vs Q E hr ⟨bx, G, as, R, Xn, wo, r, h, k, kx⟩ =>
  ⟨_, (hb cdv A outer s H E hr).nox, ⟨bx, G, H, G, startE N.length as⟩, _, start_ok wo r, pure as R Xn G.M h,
    ⟨fun G' H' σ E s ⟨N, l, h⟩ => k .non ⟨G'.G, N⟩ H' .none (s.x.less l) (s.w.less l) .non h, fun v G' H' d e w r ⟨N, l, h⟩ => k v ⟨G'.G, N⟩ H' d (e.less l) (w.less l) r h, fun _ _ _ _ _ _ _ _ _ _ _ _ f => f.elim, fun _ _ _ _ _ f => f.elim, fun _ _ _ _ _ f => f.elim, fun _ _ _ _ _ _ _ _ _ f => f.elim⟩⟩
theorem mkXM {sp : DSpM} (F : FunD K x q params body scope [] [] f fd) (S : FnScope N ps scope) (len : ∀ as R Xn M, sp as R Xn M → as.length = ps.length)
    (hb : ∀ (cdv : Value) (A : Around) (outer : List Env) (s : Shared) (H : Hp) (E : XK), Room k (A.deeper (envOfC q scope s.heap.objs.size f cdv)) → QSs (cxOf (L2.CX P w) P w K mg base N q scope f cdv A outer s H E) (WD E) body ds)
    (pure : PurXM ds N.length sp) : FnOk P w K mg base (L2.CX P w) (k + 1) f fd ps (spM K sp) :=
  F.ok S (fun vs H Q E ⟨_, G, as, R, Xn, _, r, h, _⟩ => (argsOk_len r).trans (len as R Xn G.M h)) fun cdv A outer s H vs Q E hr ⟨bx, G, as, R, Xn, wo, r, h, k, kx⟩ =>
  ⟨_, hb cdv A outer s H E hr, ⟨bx, G, H, G, startE N.length as⟩, _, start_ok wo r, pure as R Xn G.M h,
    ⟨fun G' H' σ E s ⟨N, l, h⟩ => k .non ⟨G'.G, N⟩ H' .none (s.x.less l) (s.w.less l) .non h, fun v G' H' d e w r ⟨N, l, h⟩ => k v ⟨G'.G, N⟩ H' d (e.less l) (w.less l) r h, fun _ _ _ _ _ _ _ _ _ _ _ _ f => f.elim, fun _ _ _ _ _ f => f.elim, fun _ _ _ _ _ f => f.elim, fun x cls dd G' H' σ E s er ⟨N, l, h⟩ => kx x cls dd ⟨G'.G, N⟩ H' (s.x.less l) (s.w.less l) er h⟩⟩
end
end Wx

namespace Wx
open PySem PySem.Spec PyProof.Rows L2

/-! ### the built-ins' names, free in every law -/
structure Fr (mg : Str → Option Value) : Prop where
  len : mg "len" = none
  list : mg "list" = none
  tuple : mg "tuple" = none
  range : mg "range" = none
  isi : mg "isinstance" = none
  int : mg "int" = none
  bool : mg "bool" = none
  str : mg "str" = none
  dict : mg "dict" = none
  all : mg "all" = none
  any : mg "any" = none
  sorted : mg "sorted" = none
  min : mg "min" = none
  max : mg "max" = none
  set : mg "set" = none
  enum : mg "enumerate" = none
  rev : mg "reversed" = none
  zip : mg "zip" = none
theorem bv_len : bootBuiltins ("len" : Str) = some (.builtin "len") := by decide +kernel
theorem bv_list : bootBuiltins ("list" : Str) = some (.type "list") := by decide +kernel
theorem bv_tuple : bootBuiltins ("tuple" : Str) = some (.type "tuple") := by decide +kernel
theorem bv_int : bootBuiltins ("int" : Str) = some (.type "int") := by decide +kernel
theorem bv_str : bootBuiltins ("str" : Str) = some (.type "str") := by decide +kernel
theorem bv_bool : bootBuiltins ("bool" : Str) = some (.type "bool") := by decide +kernel
theorem bv_all : bootBuiltins ("all" : Str) = some (.builtin "all") := by decide +kernel
theorem bv_any : bootBuiltins ("any" : Str) = some (.builtin "any") := by decide +kernel
theorem bv_sorted : bootBuiltins ("sorted" : Str) = some (.builtin "sorted") := by decide +kernel
theorem bv_min : bootBuiltins ("min" : Str) = some (.builtin "min") := by decide +kernel
theorem bv_max : bootBuiltins ("max" : Str) = some (.builtin "max") := by decide +kernel
section
variable {X : Cx} {W : WX} {pos p p2 : Pos} {e e2 : Expr} {es : List Expr} {da : DA} {de db : DE}
theorem b_len (fr : Fr X.mg) (ha : QA X W [e] da) (hg : Gl X "len" := by rfl) (he : starEach [e] X.env = (false, eval e X.env) :: starEach [] X.env := by rfl) : QE X W (.Call (.Name "len" p) [e] [] pos) (dCB fLen da) := q_callB call_len len_ok fr.len ha hg bv_len (by decide) (by decide) he rfl
theorem b_list (fr : Fr X.mg) (ha : QA X W [e] da) (hg : Gl X "list" := by rfl) (he : starEach [e] X.env = (false, eval e X.env) :: starEach [] X.env := by rfl) : QF X W (.Call (.Name "list" p) [e] [] pos) (dCBF fList da) := f_callT call_list_of list_ok fr.list ha hg bv_list (by decide) (by decide) he rfl
theorem b_tuple (fr : Fr X.mg) (ha : QA X W [e] da) (hg : Gl X "tuple" := by rfl) (he : starEach [e] X.env = (false, eval e X.env) :: starEach [] X.env := by rfl) : QE X W (.Call (.Name "tuple" p) [e] [] pos) (dCB fTuple da) := q_callT call_tuple_of tuple_ok fr.tuple ha hg bv_tuple (by decide) (by decide) he rfl
theorem b_all (fr : Fr X.mg) (hc : X.calm = true) (ha : QA X W [e] da) (hg : Gl X "all" := by rfl) (he : starEach [e] X.env = (false, eval e X.env) :: starEach [] X.env := by rfl) : QE X W (.Call (.Name "all" p) [e] [] pos) (dCB fAll da) := q_callB (cr_all hc) all_ok fr.all ha hg bv_all (by decide) (by decide) he rfl
theorem b_any (fr : Fr X.mg) (hc : X.calm = true) (ha : QA X W [e] da) (hg : Gl X "any" := by rfl) (he : starEach [e] X.env = (false, eval e X.env) :: starEach [] X.env := by rfl) : QE X W (.Call (.Name "any" p) [e] [] pos) (dCB fAny da) := q_callB (cr_any hc) any_ok fr.any ha hg bv_any (by decide) (by decide) he rfl
theorem b_int (fr : Fr X.mg) (ha : QA X W [e] da) (hg : Gl X "int" := by rfl) (he : starEach [e] X.env = (false, eval e X.env) :: starEach [] X.env := by rfl) : QE X W (.Call (.Name "int" p) [e] [] pos) (dCB fInt da) := q_callT call_intA int_ok fr.int ha hg bv_int (by decide) (by decide) he rfl
theorem b_str (fr : Fr X.mg) (ha : QA X W [e] da) (hg : Gl X "str" := by rfl) (he : starEach [e] X.env = (false, eval e X.env) :: starEach [] X.env := by rfl) : QE X W (.Call (.Name "str" p) [e] [] pos) (dCB fStr da) := q_callT call_str_int str_ok fr.str ha hg bv_str (by decide) (by decide) he rfl
theorem b_sorted (fr : Fr X.mg) (ha : QA X W [e] da) (hg : Gl X "sorted" := by rfl) (he : starEach [e] X.env = (false, eval e X.env) :: starEach [] X.env := by rfl) : QF X W (.Call (.Name "sorted" p) [e] [] pos) (dCBF fSorted da) := f_callB cr_sortedA sorted_ok fr.sorted ha hg bv_sorted (by decide) (by decide) he rfl
theorem b_min (fr : Fr X.mg) (hc : X.calm = true) (ha : QA X W [e, e2] da) (hg : Gl X "min" := by rfl) (he : starEach [e, e2] X.env = (false, eval e X.env) :: starEach [e2] X.env := by rfl) (hpl : (backTo pos (starEach [e2] X.env)).any (·.1) = false := by rfl) : QE X W (.Call (.Name "min" p) [e, e2] [] pos) (dCB fMin2 da) := q_callB (call_min2 hc) min2_ok fr.min ha hg bv_min (by decide) (by decide) he hpl
theorem b_max (fr : Fr X.mg) (hc : X.calm = true) (ha : QA X W [e, e2] da) (hg : Gl X "max" := by rfl) (he : starEach [e, e2] X.env = (false, eval e X.env) :: starEach [e2] X.env := by rfl) (hpl : (backTo pos (starEach [e2] X.env)).any (·.1) = false := by rfl) : QE X W (.Call (.Name "max" p) [e, e2] [] pos) (dCB fMax2 da) := q_callB (call_max2 hc) max2_ok fr.max ha hg bv_max (by decide) (by decide) he hpl
theorem b_isi {T : String} {x : Str} (fr : Fr X.mg) (hT : T ∈ ["int", "bool", "str", "list", "tuple"]) (hx : X.mg x = none) (hv : bootBuiltins x = some (.type T)) (ha : QE X W e de) (hgx : Gl X x := by rfl) (hg : Gl X "isinstance" := by rfl) (hnx : x ≠ "__name__" := by decide) (hdx : (x == ("__debug__" : Str)) = false := by decide)
    (he : starEach [e, .Name x p2] X.env = (false, eval e X.env) :: starEach [.Name x p2] X.env := by rfl) (he2 : starEach [.Name x p2] X.env = (false, eval (.Name x p2) X.env) :: starEach [] X.env := by rfl) (hpl : (backTo pos (starEach [.Name x p2] X.env)).any (·.1) = false := by rfl) :
    QE X W (.Call (.Name "isinstance" p) [e, .Name x p2] [] pos) (dIsi T de) := q_isi hT fr.isi hx ha hgx hv hg hnx hdx he he2 hpl
/-- a number, a text of the module -/
theorem q_gi {x : Str} {i : Int} (h : ∃ t, X.mg x = some (.int i t)) (hg : Gl X x := by rfl) (hd : (x == ("__debug__" : Str)) = false := by decide) : QE X W (.Name x pos) (dC (.int i)) := by
  obtain ⟨t, h⟩ := h
  exact q_gint (pe_glob hg h ⟨t, rfl⟩ hd)
theorem q_gs {x : Str} {i : Str} (h : ∃ t, X.mg x = some (.str i t)) (hg : Gl X x := by rfl) (hd : (x == ("__debug__" : Str)) = false := by decide) : QE X W (.Name x pos) (dC (.str i)) := by
  obtain ⟨t, h⟩ := h
  exact q_gstr (pe_glob hg h ⟨t, rfl⟩ hd)
end
/-! lists of one's own: the walk's terms -/
section
variable {X : Cx} {W : WX} {pos p apos cpos tpos : Pos} {x : Str} {e a : Expr} {de di : DE}
theorem s_append (i : Nat) (hv : PE X (.Name x p) (tVar i)) (he : QE X W e de) (hst : starEach [e] X.env = (false, eval e X.env) :: starEach [] X.env := by rfl) (hb : attributeBase (.Name x p) "append" X.env (eval (.Name x p) X.env) = eval (.Name x p) X.env := by rfl)
    (h : ∀ te, PE X e te → PE X (.Call (.Attribute (.Name x p) "append" apos) [e] [] cpos) (tBM X.K "list" rAppend (tVar i) (tCons te tNil)))
    (hs : swapsWith (.Call (.Attribute (.Name x p) "append" apos) [e] [] cpos) none pos.line X.env = pure false := by rfl) : QS X W (.Expr (.Call (.Attribute (.Name x p) "append" apos) [e] [] cpos) pos) (dApp i de) :=
  s_app i (fun te ht => ps_expr (h te ht) hs) he
end

/-! ### the box's draws -/
/-- a number below n, whichever -/
def sp_take : DSp := fun as R _ => ∃ n : Int, as = [.box, .dat (.int n)] ∧ 0 < n ∧ n < 1073741824 ∧ ∀ i, 0 ≤ i → i < n → R (.int i)
def sp_mixed : DSp := fun as R _ => ∃ a b : Int, as = [.dat (.int a), .dat (.int b)] ∧ ∀ i, R (.int i)
end Wx

namespace Wx
open PySem PySem.Spec PyProof.Rows L2

/-! ### the room for a comparison, for what passes -/
theorem Room.hu {k : Nat} {A : Around} (r : Room k A) : A.units + 65 < cLine := by have := r.un; omega

/-! ### a comprehension straight to its name -/
section
variable {X : Cx} {W : WX} {elt tgE iter : Expr} {ifs : List Expr} {scope : Scope} {own : List (Str × Nat)} {pos spos py : Pos} {di : DI} {tg : Tgt} {dt : DT} {de : DE} {i : Nat} {y : Str} {df : DF}
theorem s_setLcO (hc : X.calm = true) (hN : X.N.Nodup) (hy : X.N[i]? = some y) (hyl : X.env.scope.names.lookup y = some .local) (hsw : swapsWith (.ListComp elt [⟨tgE, iter, ifs, 0⟩] scope pos) (some (.Name y py)) spos.line X.env = pure true)
    (hb : ∀ σ H Q, liftF X.K W df σ H Q → liftF X.K W (dLc di tg dt de (own.map (·.2))) σ H Q) (hi : QI X W tgE iter di) (ok : blkC X.N X.env.scope scope own = true) (hv : ∀ i ∈ tg.is, i ∈ own.map (·.2))
    (hg : ∀ (s : Shared) (H : Hp) (C : Addr) (cl : List (Str × Addr)) (fp : List Addr), PG (X.blk s H scope (compEnvC scope cl C X.env) fp) tgE (gT X.K tg)) (ht : ∀ (s : Shared) (H : Hp) (C : Addr) (cl : List (Str × Addr)) (fp : List Addr), PTs (X.blk s H scope (compEnvC scope cl C X.env) fp) ifs (liftT X.K WF dt))
    (he : ∀ (s : Shared) (H : Hp) (C : Addr) (cl : List (Str × Addr)) (fp : List Addr), QE (X.blk s H scope (compEnvC scope cl C X.env) fp) WF elt de) (hs : ∀ x, foldedSetIterable iter X.env x = pure x := by intro _; rfl) :
    QS X W (.Assign [.Name y py] (.ListComp elt [⟨tgE, iter, ifs, 0⟩] scope pos) spos) (dSetO i df) :=
  ps_imp (ps_setLc hc hN hy hyl hsw hi (blkOk_by ok) hg ht he hs) fun D σ H ⟨P, R, S, h, L⟩ => lift_lc (K := X.K) hv (hb _ _ _ ⟨P, _, _, S, h, fun p xs G1 H1 ds e1 S1 hp gp mp hx rr h1 => L.nx G1 H1 _ _ (S1.nameOwn (S.x.none_of hp) gp mp hx rr (S.w.off hp) (fun j es q hσ => S.no_own hp j es q hσ)) h1, L.err⟩)
theorem s_setLc (hc : X.calm = true) (hN : X.N.Nodup) (hy : X.N[i]? = some y) (hyl : X.env.scope.names.lookup y = some .local) (hsw : swapsWith (.ListComp elt [⟨tgE, iter, ifs, 0⟩] scope pos) (some (.Name y py)) spos.line X.env = pure true)
    (hb : ∀ σ H Q, liftF X.K W df σ H Q → liftF X.K W (dLc di tg dt de (own.map (·.2))) σ H Q) (hi : QI X W tgE iter di) (ok : blkC X.N X.env.scope scope own = true) (hv : ∀ i ∈ tg.is, i ∈ own.map (·.2))
    (hg : ∀ (s : Shared) (H : Hp) (C : Addr) (cl : List (Str × Addr)) (fp : List Addr), PG (X.blk s H scope (compEnvC scope cl C X.env) fp) tgE (gT X.K tg)) (ht : ∀ (s : Shared) (H : Hp) (C : Addr) (cl : List (Str × Addr)) (fp : List Addr), PTs (X.blk s H scope (compEnvC scope cl C X.env) fp) ifs (liftT X.K WF dt))
    (he : ∀ (s : Shared) (H : Hp) (C : Addr) (cl : List (Str × Addr)) (fp : List Addr), QE (X.blk s H scope (compEnvC scope cl C X.env) fp) WF elt de) (hs : ∀ x, foldedSetIterable iter X.env x = pure x := by intro _; rfl) :
    QS X W (.Assign [.Name y py] (.ListComp elt [⟨tgE, iter, ifs, 0⟩] scope pos) spos) (dSet i (dFz df)) :=
  ps_imp (ps_setLc hc hN hy hyl hsw hi (blkOk_by ok) hg ht he hs) fun D σ H ⟨P, R, S, h, L⟩ => lift_lc (K := X.K) hv (hb _ _ _ ⟨P, _, _, S, h, fun p xs G1 H1 ds e1 S1 hp gp mp hx rr h1 => by
    obtain ⟨e2, S2⟩ := S1.freeze e1 S hp gp mp hx
    have gg : Same G1.G (upd G1.G p (.lst xs)) := fun a u q => by rw [upd_ne (ne_of_none q gp)]; exact q
    exact L.nx _ _ _ _ (S2.setDat (.lst upd_same (rr.up gg))) h1, L.err⟩)
end

/-! ### the box -/
structure BoxAt (K : PySem.W.Frag) (z : Bx) (G H : Hp) (ns : List Int) (p q r s : Int) : Prop where
  at_ : H z.b = some (.lst [.ref z.a, .int p, .int q, .int r, .int s])
  ns : Rp K G (.ref z.a) (.list (ns.map .int))
  pos : 0 ≤ p
theorem box_turn {K : PySem.W.Frag} {z : Bx} {G : Gm} {H : Hp} {ns : List Int} {p q r s p' q' r' s' : Int} (w : Wo K (some z) G H) (b : BoxAt K z G H ns p q r s) (hp : 0 ≤ p') :
    Ext (some z) G H G (upd H z.b (.lst [.ref z.a, .int p', .int q', .int r', .int s'])) ∧ Wo K (some z) G (upd H z.b (.lst [.ref z.a, .int p', .int q', .int r', .int s'])) ∧ BoxAt K z G (upd H z.b (.lst [.ref z.a, .int p', .int q', .int r', .int s'])) ns p' q' r' s' := by
  obtain ⟨gb, _⟩ := w.b z rfl
  have b' : BoxAt K z G (upd H z.b (.lst [.ref z.a, .int p', .int q', .int r', .int s'])) ns p' q' r' s' := ⟨upd_same, b.ns, hp⟩
  refine ⟨⟨Same.refl G.G, fun a o off _ e => ?_, fun a o e => .inl e, fun a o e => ?_, fun a ob q => .inl ⟨ob, q⟩⟩, ⟨fun a o e => ?_, fun z2 hz => ?_, fun a ob q => ?_⟩, b'⟩
  · rw [upd_ne (fun h => off z rfl h.symm)]; exact e
  · by_cases h : a = z.b
    · rw [h]; exact ⟨_, upd_same⟩
    · rw [upd_ne h]; exact ⟨o, e⟩
  · rw [upd_ne (ne_of_none e gb)]; exact w.s a o e
  · cases hz
    exact ⟨gb, ns, p', q', r', s', b'.at_, b'.ns, b'.pos⟩
  · obtain ⟨c1, c2, c3⟩ := w.c a ob q
    exact ⟨c1.up (Same.refl G.G) (upd_ne fun e => c3 z rfl e.symm), c2, c3⟩

/-! ### the box made, a number mixed, a number taken: their walks' readings -/
abbrev xAdd : R2 := rI0 fun i j => .int (i + j)
abbrev xMul : R2 := rI CMul fun i j => .int (i * j)
abbrev xDiv : R2 := rI CDiv fun i j => .int (i / j)
abbrev xMod : R2 := rI (fun _ j => 0 < j) fun i j => .int (i % j)
abbrev xI (n : Int) : TE := tC (.int n)
section
variable (K : PySem.W.Frag)
def tCut63 : TE := tSl (rSlL K) (tVar 0) tNoPart (tPart (xI 63))
def t_boxed : TS := tSeq (tAsg (xI 0) (gName 1)) (tSeq (tFor (iList K (tCut63 K)) (gName 2) (tAsg (tOp xMod (tOp xAdd (tOp xAdd (tOp xMul (tVar 1) (xI 31)) (tVar 2)) (xI 17)) (xI 2147483647)) (gName 1)))
  (tRet (tLst (tCons (tCB (fun xs H Q => ∃ p ys, xs = [.ref p] ∧ (SqL K H p ys ∨ SqT K H p ys) ∧ ∀ l, H l = none → Q (.ref l) (upd H l (.lst ys))) (tCons (tCut63 K) tNil)) (tCons (xI 0) (tCons (xI 0) (tCons (xI 0) (tCons (tVar 1) tNil))))))))
/-- what the box's maker gives -/
def spBox : Sp := fun vs H Q _ => ∃ (a : Addr) (ns : List Int), vs = [.ref a] ∧ SqL K H a (ns.map V.int) ∧ ns.length ≤ 63 ∧
  ∀ (H' : Hp) (c b : Addr) (s : Int), c ≠ b → H' c = some (.lst (ns.map V.int)) → H' b = some (.lst [.ref c, .int 0, .int 0, .int 0, .int s]) → Q (.ref b) H'
theorem cut63 {ns : List Int} (h : ns.length ≤ 63) : cutV (ns.map V.int) none (some 63) = ns.map V.int := by
  have e : HT.sIx (ns.map V.int).length (ns.map V.int).length (some 63) - HT.sIx (ns.map V.int).length 0 none = ns.length := by
    simp [HT.sIx]
    omega
  have e2 : HT.sIx (ns.map V.int).length 0 none = 0 := rfl
  unfold cutV
  rw [e, e2, List.drop_zero, List.take_of_length_le (by simp)]
theorem pure_boxed (vs : List V) (H : Hp) (Q : VK) (E : XK) (h : spBox K vs H Q E) (N : List Str) (hN : N.length = 3) : t_boxed K { nx := fun _ H' => Q .non H', rt := Q } (L2.start N vs) H := by
  obtain ⟨a, ns, rfl, hS, hl, hQ⟩ := h
  have e0 : L2.start N [.ref a] = [some (.ref a), none, none] := by
    unfold L2.start
    simp [hN, List.replicate]
  rw [e0]
  refine ⟨.ref a, rfl, ?_⟩
  refine ⟨63, rfl, ?_⟩
  refine ⟨a, _, rfl, hS, fun p hp => ?_⟩
  refine ⟨p, rfl, ⟨_, SqL.of upd_same⟩, ?_⟩
  rw [cut63 hl]
  have hSu : SqL K (upd H p (.lst (ns.map V.int))) a (ns.map V.int) := hS.elim (fun h => .inl (h.elim (fun h => .inl (by rw [upd_ne (ne_of_none h hp)]; exact h)) fun ⟨o, h⟩ => .inr ⟨o, by rw [upd_ne (ne_of_none h hp)]; exact h⟩)) .inr
  refine ⟨fun i m σ H2 => H2 = upd H p (.lst (ns.map V.int)) ∧ i ≤ ns.length ∧ m = ns.length - i ∧ ∃ (s : Int) (y : Option V), σ = [some (.ref a), some (.int s), y], ⟨_, rfl, Nat.zero_le _, rfl, 0, none, rfl⟩, ?_⟩
  rintro i m σ H2 ⟨rfl, hi, rfl, s, y, rfl⟩
  by_cases hlt : i < ns.length
  · refine .inr ⟨⟨_, .int ns[i], SqL.of upd_same, by simp [hlt]⟩, _, fun σ' H' q => ⟨ns.length - (i + 1), by omega, q⟩, fun x H' ⟨e1, e2⟩ => ?_⟩
    subst e1
    have e2 := e2 _ (SqL.of upd_same)
    simp [hlt] at e2
    subst e2
    refine ⟨_, rfl, s, 31, rfl, rfl, .inr ⟨by decide, by decide⟩, _, rfl, _, _, rfl, rfl, _, _, rfl, rfl, _, _, rfl, rfl, (by decide : (0 : Int) < 2147483647), rfl, hlt, rfl, _, _, rfl⟩
  · have ei : i = ns.length := by omega
    subst ei
    refine .inl ⟨⟨_, SqL.of upd_same, by simp⟩, .ref a, rfl, 63, rfl, a, _, rfl, hSu, fun p2 hp2 => ?_⟩
    rw [cut63 hl]
    refine ⟨p2, _, rfl, .inl (SqL.of upd_same), fun c hc => ⟨_, rfl, by show 5 ≤ sizeLine; rw [show sizeLine = 2 ^ 24 from rfl]; decide, fun b hb => ?_⟩⟩
    refine hQ _ c b s ?_ ?_ upd_same
    · intro e; rw [e, upd_same] at hb; cases hb
    · rw [upd_ne (by intro e; rw [← e, upd_same] at hb; cases hb)]
      exact upd_same

/-- a number mixed -/
def t_mixed : TS := tSeq (tAsg (tOp xMod (tOp xAdd (tOp xAdd (tOp xMul (tVar 0) (xI 48271)) (tOp xMul (tVar 1) (xI 69621))) (xI 12345)) (xI 2147483647)) (gName 2))
  (tSeq (tAsg (tOp xMod (tOp xAdd (tOp xAdd (tOp xMul (tVar 2) (tOp xAdd (tOp xMod (tVar 2) (xI 65521)) (xI 7))) (tOp xMul (tVar 1) (xI 40692))) (tOp xMod (tVar 0) (xI 104729))) (xI 998244353)) (gName 3))
  (tRet (tOp xDiv (tVar 3) (xI 7))))
def spMixed : Sp := fun vs H Q _ => ∃ a b : Int, vs = [.int a, .int b] ∧ ∀ i : Int, Q (.int i) H
theorem pure_mixed (vs : List V) (H : Hp) (Q : VK) (E : XK) (h : spMixed vs H Q E) (N : List Str) (hN : N.length = 4) : t_mixed { nx := fun _ H' => Q .non H', rt := Q } (L2.start N vs) H := by
  obtain ⟨a, b, rfl, hQ⟩ := h
  have e0 : L2.start N [.int a, .int b] = [some (.int a), some (.int b), none, none] := by
    unfold L2.start
    simp [hN, List.replicate]
  rw [e0]
  have h1 : ∀ x : Int, (0 ≤ x % 2147483647 ∧ x % 2147483647 < 2147483647) := fun x => ⟨Int.emod_nonneg _ (by decide), Int.emod_lt_of_pos _ (by decide)⟩
  refine ⟨_, rfl, a, 48271, rfl, rfl, .inr ⟨by decide, by decide⟩, _, rfl, b, 69621, rfl, rfl, .inr ⟨by decide, by decide⟩, _, _, rfl, rfl, _, _, rfl, rfl, _, _, rfl, rfl, (by decide : (0 : Int) < 2147483647), ?_⟩
  obtain ⟨h2, h3⟩ := h1 (a * 48271 + b * 69621 + 12345)
  refine ⟨_, rfl, _, rfl, _, _, rfl, rfl, (by decide : (0 : Int) < 65521), _, _, rfl, rfl, _, _, rfl, rfl, .inl ⟨by omega, by omega⟩, _, rfl, b, 40692, rfl, rfl, .inr ⟨by decide, by decide⟩, _, _, rfl, rfl, _, rfl, a, 104729, rfl, rfl, (by decide : (0 : Int) < 104729), _, _, rfl, rfl, _, _, rfl, rfl, (by decide : (0 : Int) < 998244353), ?_⟩
  exact ⟨_, rfl, _, 7, rfl, rfl, ⟨by decide, by decide⟩, hQ _⟩
/-- the box's k-th -/
abbrev xB (k : Int) : TE := tOp (rIx K) (tVar 0) (xI k)
abbrev xSet (k : Int) : TG := gSub (tVar 0) (xI k) rSetL
abbrev xLen : TA → TE := tCB (rLen K)
def xMixed (a b : TE) : TE := tCall spMixed [] E0 (tCons a (tCons b tNil))
abbrev xLt (g : Int → Int → V) (a b : TE) : TT := tTest (tOp (rI0 g) a b)
def t_taken : TS := tSeq (tAsg (tOp xAdd (xB K 3) (xI 1)) (xSet 3))
  (tSeq (tIfS (xLt (fun i j => .bl (decide (j < i))) (xB K 2) (xI 0)) (tSeq (tAsg (xB K 2) (gName 2)) (tSeq (tAsg (tOp xDiv (tVar 2) (tVar 1)) (xSet 2)) (tRet (tOp xMod (tVar 2) (tVar 1))))) tNext)
  (tSeq (tIfS (xLt (fun i j => .bl (decide (j ≤ i))) (xB K 1) (tCB (rLen K) (tCons (xB K 0) tNil))) (tRet (tOp xMod (xMixed (xB K 4) (xB K 3)) (tVar 1))) tNext)
  (tSeq (tAsg (tOp (rIx K) (xB K 0) (xB K 1)) (gName 3))
  (tSeq (tAsg (tOp xAdd (xB K 1) (xI 1)) (xSet 1))
  (tSeq (tIfS (xLt (fun i j => .bl (decide (i < j))) (tVar 3) (tOp (rI CPow fun i j => .int (i ^ j.toNat)) (xI 10) (xI 18))) (tRet (tOp xMod (xMixed (tVar 3) (xB K 3)) (tVar 1))) tNext)
  (tSeq (tAsg (tOp xDiv (tVar 3) (tVar 1)) (xSet 2)) (tRet (tOp xMod (tVar 3) (tVar 1)))))))))
abbrev spTake : Sp := spF K sp_take
variable {K} in
theorem xb_at {b : Addr} {σ : L2.St} {H : Hp} {xs : List V} {k : Int} {v : V} {Q : VK} (h0 : σ[0]? = some (some (.ref b))) (h : H b = some (.lst xs)) (hk : atI xs k = some v) (q : Q v H) : xB K k σ H Q :=
  ⟨_, h0, .inl ⟨b, xs, k, v, rfl, rfl, SqL.of h, hk, q⟩⟩
variable {K} in
theorem pure_taken (vs : List V) (H : Hp) (Q : VK) (E : XK) (h : spTake K vs H Q E) (N : List Str) (hN : N.length = 4) : t_taken K { nx := fun _ H' => Q .non H', rt := Q } (L2.start N vs) H := by
  obtain ⟨bx, G, as, R, Xn, w, r, ⟨n, rfl, h0, h1, hR⟩, kQ, _⟩ := h
  cases r with
  | cons r1 r2 =>
  cases r2 with
  | cons r2 r3 =>
  cases r3
  obtain ⟨z, hz, rfl⟩ := r1
  cases r2
  subst hz
  have e0 : L2.start N [.ref z.b, .int n] = [some (.ref z.b), some (.int n), none, none] := by
    unfold L2.start
    simp [hN, List.replicate]
  rw [e0]
  obtain ⟨_, ns, p, q, r, s, b1, b2, b3⟩ := w.b z rfl
  have B0 : BoxAt K z G H ns p q r s := ⟨b1, b2, b3⟩
  have fin : ∀ {H' : Hp} (i : Int), _root_.Wx.Ext (some z) ⟨G, Mu.no⟩ H ⟨G, Mu.no⟩ H' → Wo K (some z) ⟨G, Mu.no⟩ H' → Q (.int (i % n)) H' := fun {H'} i e w' => kQ _ G H' (.int (i % n)) e w' (.int _) (hR _ (Int.emod_nonneg _ (by omega)) (Int.emod_lt_of_pos _ h0))
  -- the turn counted
  refine xb_at rfl B0.at_ (show atI _ 3 = some (V.int r) from rfl) ?_
  refine ⟨r, 1, rfl, rfl, _, rfl, z.b, _, 3, 3, rfl, rfl, B0.at_, rfl, ?_⟩
  obtain ⟨e1, w1, B1⟩ := box_turn (q' := q) (r' := r + 1) (s' := s) w B0 b3
  -- what is left of a number
  refine xb_at rfl B1.at_ (show atI _ 2 = some (V.int q) from rfl) ?_
  refine ⟨q, 0, rfl, rfl, _, rfl, ?_⟩
  by_cases hq : 0 < q
  · rw [decide_eq_true hq]
    show (if true = true then _ else _)
    rw [if_pos rfl]
    refine xb_at rfl B1.at_ (show atI _ 2 = some (V.int q) from rfl) ?_
    refine ⟨_, rfl, _, rfl, q, n, rfl, rfl, ⟨h0, h1⟩, _, rfl, z.b, _, 2, 2, rfl, rfl, B1.at_, rfl, ?_⟩
    obtain ⟨e2, w2, B2⟩ := box_turn (q' := q / n) (r' := r + 1) (s' := s) w1 B1 b3
    exact ⟨_, rfl, _, rfl, q, n, rfl, rfl, h0, fin q (e1.trans e2) w2⟩
  rw [decide_eq_false hq]
  show (if false = true then _ else _)
  rw [if_neg Bool.false_ne_true]
  cases hn : B1.ns with
  | lst ga ra =>
  have ea := ra.ints
  subst ea
  have ha : (upd H z.b (.lst [.ref z.a, .int p, .int q, .int (r + 1), .int s])) z.a = some (.lst (ns.map V.int)) := w1.s _ _ ga
  refine xb_at rfl B1.at_ (show atI _ 1 = some (V.int p) from rfl) ?_
  refine xb_at rfl B1.at_ (show atI _ 0 = some (V.ref z.a) from rfl) ?_
  refine ⟨_, _, rfl, .inl ⟨_, SqL.of ha, rfl⟩, p, _, rfl, rfl, _, rfl, ?_⟩
  by_cases hp : (((ns.map V.int).length : Nat) : Int) ≤ p
  · rw [decide_eq_true hp]
    show (if true = true then _ else _)
    rw [if_pos rfl]
    refine xb_at rfl B1.at_ (show atI _ 4 = some (V.int s) from rfl) ?_
    refine xb_at rfl B1.at_ (show atI _ 3 = some (V.int (r + 1)) from rfl) ?_
    exact ⟨s, r + 1, rfl, fun i => ⟨_, rfl, i, n, rfl, rfl, h0, fin i e1 w1⟩⟩
  rw [decide_eq_false hp]
  show (if false = true then _ else _)
  rw [if_neg Bool.false_ne_true]
  have hp2 : p.toNat < ns.length := by simp at hp; omega
  refine xb_at rfl B1.at_ (show atI _ 0 = some (V.ref z.a) from rfl) ?_
  refine xb_at rfl B1.at_ (show atI _ 1 = some (V.int p) from rfl) ?_
  refine .inl ⟨z.a, _, p, .int ns[p.toNat], rfl, rfl, SqL.of ha, ?_, ?_⟩
  · unfold atI ixN
    rw [if_pos b3, if_pos (by simp; omega)]
    simp [hp2]
  refine xb_at rfl B1.at_ (show atI _ 1 = some (V.int p) from rfl) ?_
  refine ⟨p, 1, rfl, rfl, _, rfl, z.b, _, 1, 1, rfl, rfl, B1.at_, rfl, ?_⟩
  obtain ⟨e2, w2, B2⟩ := box_turn (p' := p + 1) (q' := q) (r' := r + 1) (s' := s) w1 B1 (by omega)
  refine ⟨_, rfl, 10, 18, rfl, rfl, ⟨by decide, by decide, by decide⟩, ns[p.toNat], _, rfl, rfl, _, rfl, ?_⟩
  by_cases hc : ns[p.toNat] < (10 : Int) ^ (18 : Int).toNat
  · rw [decide_eq_true hc]
    show (if true = true then _ else _)
    rw [if_pos rfl]
    refine ⟨_, rfl, ?_⟩
    refine xb_at rfl B2.at_ (show atI _ 3 = some (V.int (r + 1)) from rfl) ?_
    exact ⟨_, r + 1, rfl, fun i => ⟨_, rfl, i, n, rfl, rfl, h0, fin i (e1.trans e2) w2⟩⟩
  rw [decide_eq_false hc]
  show (if false = true then _ else _)
  rw [if_neg Bool.false_ne_true]
  obtain ⟨e3, w3, B3⟩ := box_turn (q' := ns[p.toNat] / n) (r' := r + 1) (s' := s) w2 B2 B2.pos
  refine ⟨_, rfl, _, rfl, _, n, rfl, rfl, ⟨h0, h1⟩, _, rfl, z.b, _, 2, 2, rfl, rfl, B2.at_, rfl, ?_⟩
  exact ⟨_, rfl, _, rfl, _, n, rfl, rfl, h0, fin _ (e1.trans (e2.trans e3)) w3⟩
end

/-! ### the law's own def: the box made, then the rest over data -/
def spLaw (K : PySem.W.Frag) : Sp := fun vs H Q _ => ∃ (a : Addr) (ns : List Int), vs = [.ref a] ∧ SqL K H a (ns.map V.int) ∧ ns.length ≤ 63 ∧ ∀ H', Q (.bl true) H'
def startLaw (n : Nat) : List En := .un :: .box :: List.replicate (n - 2) .un
/-- what is asked of the law's reading -/
@[simp] abbrev PurL (ds : DS) (n : Nat) : Prop := ds { nx := fun _ _ => False, rt := fun d _ => d = .bool true } (startLaw n) Mu.no
theorem law_start {K : PySem.W.Frag} {N : List Str} (hn : 2 ≤ N.length) {a : Addr} {H' : Hp} {c b : Addr} {s : Int} {ns : List Int} (hcb : c ≠ b) (hc : H' c = some (.lst (ns.map V.int))) (hb : H' b = some (.lst [.ref c, .int 0, .int 0, .int 0, .int s])) :
    SR K (some ⟨b, c⟩) ⟨upd (fun _ => none) c (.lst (ns.map V.int)), Mu.no⟩ H' ⟨upd (fun _ => none) c (.lst (ns.map V.int)), Mu.no⟩ H' ((L2.start N [.ref a]).set 1 (some (.ref b))) (startLaw N.length) := by
  have es : (L2.start N [.ref a]).set 1 (some (.ref b)) = some (.ref a) :: some (.ref b) :: List.replicate (N.length - 2) none := by
    unfold L2.start
    obtain ⟨m, hm⟩ : ∃ m, N.length = m + 2 := ⟨N.length - 2, by omega⟩
    rw [hm]
    simp [List.replicate]
  have hs : Same (upd (fun _ => none) c (.lst (ns.map V.int))) H' := fun x o e => by
    by_cases h : x = c
    · rw [h, upd_same] at e; rw [h, ← e, hc]
    · rw [upd_ne h] at e; cases e
  have gb : (upd (fun _ => none) c (.lst (ns.map V.int)) : Hp) b = none := upd_ne (Ne.symm hcb)
  refine ⟨by rw [es]; simp [startLaw], Ext.refl, ⟨hs, fun z hz => ?_, fun a ob q => absurd (show (none : Option Ob) = some _ from q) (by simp)⟩, fun i en q => ?_, fun i j ds es p _ q1 _ _ _ => ?_⟩
  · cases hz
    exact ⟨gb, ns, 0, 0, 0, s, hb, .lst (G := upd (fun _ => none) c (.lst (ns.map V.int))) upd_same (rps_ints ns), by decide⟩
  · rw [es]
    match i, q with
    | 0, q => cases q; trivial
    | 1, q => cases q; exact ⟨_, rfl, rfl⟩
    | i + 2, q =>
      have q2 : (List.replicate (N.length - 2) En.un)[i]? = some en := q
      rw [List.eq_of_mem_replicate (List.mem_of_getElem? q2)]
      trivial
  · match i, q1 with
    | 0, q1 => cases q1
    | 1, q1 => cases q1
    | i + 2, q1 =>
      have q2 : (List.replicate (N.length - 2) En.un)[i]? = some (En.own ds) := q1
      have := List.eq_of_mem_replicate (List.mem_of_getElem? q2)
      cases this
section
variable {P : Program} {w : World} {K : PySem.W.Frag} {mg : Str → Option Value} {base : Heap} {x y : Str} {params : Arguments} {st : Stmt} {rest : List Stmt} {scope : Scope} {f : Addr} {fd : FuncData} {N : List Str} {k : Nat} {ds : DS}
theorem mkLaw (F : FunD K x x params (st :: rest) scope [] [] f fd) (S : FnScope N [y] scope) (hn : 2 ≤ N.length)
    (h1 : ∀ (cdv : Value) (A : Around) (outer : List Env) (s : Shared) (H : Hp) (E : XK), Room k (A.deeper (envOfC x scope s.heap.objs.size f cdv)) → PS (cxOf CX0 P w K mg base N x scope f cdv A outer s H E).nox st (tAsg (tCall (spBox K) [] E0 (tCons (tVar 0) tNil)) (gName 1)))
    (hb : ∀ (cdv : Value) (A : Around) (outer : List Env) (s : Shared) (H : Hp) (E : XK), Room k (A.deeper (envOfC x scope s.heap.objs.size f cdv)) → QSs (cxOf CX0 P w K mg base N x scope f cdv A outer s H E).nox WF rest ds)
    (pure : PurL ds N.length) : FnOk P w K mg base CX0 (k + 1) f fd [y] (spLaw K) :=
  F.ok S (fun vs H Q E ⟨_, _, e, _⟩ => by rw [e]; rfl) fun cdv A outer s H vs Q E hr ⟨a, ns, ev, hS, hl, hQ⟩ =>
  ⟨_, (pss_cons (h1 cdv A outer s H E hr) (hb cdv A outer s H E hr)).nox, by
    subst ev
    have e0 : (L2.start N [V.ref a])[0]? = some (some (.ref a)) := by
      unfold L2.start
      simp
    refine ⟨_, e0, a, ns, rfl, hS, hl, fun H' c b s hcb hc hb => ?_⟩
    refine ⟨⟨some ⟨b, c⟩, _, H', _, _⟩, _, law_start hn hcb hc hb, pure, ?_⟩
    exact ⟨fun _ _ _ _ _ f => f.elim, fun v G' H' d e w r h => by
      subst h
      cases r
      exact hQ _, fun _ _ _ _ _ _ _ _ _ _ _ _ f => f.elim, fun _ _ _ _ _ f => f.elim, fun _ _ _ _ _ f => f.elim, fun _ _ _ _ _ _ _ _ _ f => f.elim⟩⟩
end
theorem px {X : Cx} {a b : Expr} {pos : Pos} {ta tb : TE} (ha : PE X a ta) (hb : PE X b tb) (hs : PlainIx b := by exact fun _ _ => rfl) : PE X (.Subscript a b pos) (tOp (rIx X.K) ta tb) := pe_ix ix_seq ha hb hs
/-- two lists one behind the other: a new list of one's own -/
def dCat (da db : DE) : DF := fun E R Xn => da E (fun x => db E (fun y M => ∃ xs ys, x = .list xs ∧ y = .list ys ∧ (xs ++ ys).length ≤ sizeLine ∧ R (xs ++ ys) M) Xn) Xn
theorem f_cat {X : Cx} {W : WX} {pos : Pos} {a b : Expr} {da db : DE} (ha : QE X W a da) (hb : QE X W b db) : QF X W (.BinOp a .Add b pos) (dCat da db) :=
  pe_imp (pe_op op_cat ha hb) fun σ H Q ⟨P, R, Xn, S, h, k, kx⟩ =>
  ⟨P, _, Xn, S, h, fun v G1 H1 x e1 S1 r1 h1 => ⟨P.go G1, _, Xn, S1, h1, fun w G2 H2 y e2 S2 r2 ⟨ds, es, ex, ey, hl, hR⟩ => by
    subst ex ey
    have r1 := r1.up e2.g
    cases r1 with
    | @lst a xs ds h1 a1 =>
      cases r2 with
      | @lst b ys es h2 a2 =>
        have hl : xs.length + ys.length ≤ sizeLine := by
          rw [a1.length, a2.length, ← List.length_append]; exact hl
        refine ⟨a, b, xs, ys, rfl, rfl, S2.w.s _ _ h1, S2.w.s _ _ h2, hl, fun p hp => ?_⟩
        have en : Gro G2.G H2 G2.G (upd H2 p (.lst (xs ++ ys))) := Gro.own hp
        have e := e1.trans e2
        exact k p _ G2 _ _ (e.trans en.any) (S2.pure en (same_own S2.w.s hp)) (e.none_of hp) (S2.w.s.free hp) (S2.w.m_none hp) upd_same (a1.app a2) hR, kx⟩, kx⟩
end Wx

namespace Wx
open PySem PySem.Spec PyProof.Rows L2

/-! ### the readings, unfolded by simp -/
def asB (d : PyData) (R : Bool → Prop) : Prop := ∃ b, d = .bool b ∧ R b
def asI (d : PyData) (R : Int → Prop) : Prop := ∃ b, d = .int b ∧ R b
def asL (d : PyData) (R : List PyData → Prop) : Prop := ∃ b, d = .list b ∧ R b
def asQ (d : PyData) (R : List PyData → Prop) : Prop := ∃ b, seqD d = some b ∧ R b
def atE (E : List En) (i : Nat) (R : PyData → Prop) : Prop := ∃ d, E[i]? = some (.dat d) ∧ R d
@[simp] theorem asB_s {b : Bool} {R : Bool → Prop} : asB (.bool b) R = R b := propext ⟨fun ⟨_, e, h⟩ => by cases e; exact h, fun h => ⟨b, rfl, h⟩⟩
@[simp] theorem asI_s {b : Int} {R : Int → Prop} : asI (.int b) R = R b := propext ⟨fun ⟨_, e, h⟩ => by cases e; exact h, fun h => ⟨b, rfl, h⟩⟩
@[simp] theorem asL_s {b : List PyData} {R : List PyData → Prop} : asL (.list b) R = R b := propext ⟨fun ⟨_, e, h⟩ => by cases e; exact h, fun h => ⟨b, rfl, h⟩⟩
@[simp] theorem asQ_l {b : List PyData} {R : List PyData → Prop} : asQ (.list b) R = R b := propext ⟨fun ⟨_, e, h⟩ => by cases e; exact h, fun h => ⟨b, rfl, h⟩⟩
@[simp] theorem asQ_t {b : List PyData} {R : List PyData → Prop} : asQ (.tuple b) R = R b := propext ⟨fun ⟨_, e, h⟩ => by cases e; exact h, fun h => ⟨b, rfl, h⟩⟩
section
variable {i : Nat} {E : List En} {M : Mu} {R : PyData → Mu → Prop} {Xn : Er → Mu → Prop} {d : PyData} {f g : F2} {da db dc de : DE} {dt du : DT} {RT : Bool → Mu → Prop} {dr : DA} {RA : List En → Mu → Prop} {df : DF} {RF : List PyData → Mu → Prop} {di : DI} {D : DEnds} {sa sb : DS} {d1 d2 : DO} {RO : Option Int → Mu → Prop}
@[simp] theorem dVar_s : dVar i E R Xn = fun M => ∃ d, E[i]? = some (.dat d) ∧ R d M := rfl
@[simp] theorem dC_s : dC d E R Xn = R d := rfl
@[simp] theorem dOp_s : dOp f da db E R Xn = da E (fun x => db E (fun y M => f x y fun z => R z M) Xn) Xn := rfl
@[simp] theorem dTB_s : dTB de E RT Xn = de E (fun d M => asB d fun b => RT b M) Xn := rfl
@[simp] theorem dChain_s : dChain f g da db dc E R Xn = da E (fun x => db E (fun y M => f x y fun z => asB z fun k => (k = true → dc E (fun w M => g y w fun z => R z M) Xn M) ∧ (k = false → R (.bool false) M)) Xn) Xn := rfl
@[simp] theorem dNeg_s : dNeg da E R Xn = da E (fun x M => asI x fun i => R (.int (-i)) M) Xn := rfl
@[simp] theorem dAndT_s : dAndT dt du E RT Xn = dt E (fun c M => (c = true → du E RT Xn M) ∧ (c = false → RT false M)) Xn := rfl
@[simp] theorem dOrT_s : dOrT dt du E RT Xn = dt E (fun c M => (c = false → du E RT Xn M) ∧ (c = true → RT true M)) Xn := rfl
@[simp] theorem dNotT_s : dNotT dt E RT Xn = dt E (fun c => RT (!c)) Xn := rfl
@[simp] theorem dAndV_s : dAndV da db E R Xn = da E (fun x M => asB x fun c => (c = true → db E R Xn M) ∧ (c = false → R (.bool false) M)) Xn := rfl
@[simp] theorem dOrV_s : dOrV da db E R Xn = da E (fun x M => asB x fun c => (c = false → db E R Xn M) ∧ (c = true → R (.bool true) M)) Xn := rfl
@[simp] theorem dNotV_s : dNotV da E R Xn = da E (fun x M => asB x fun c => R (.bool (!c)) M) Xn := rfl
@[simp] theorem dIf_s : dIf dt da db E R Xn = dt E (fun c M => (c = true → da E R Xn M) ∧ (c = false → db E R Xn M)) Xn := rfl
@[simp] theorem dNil_s : dNil E RA Xn = RA [] := rfl
@[simp] theorem dCons_s : dCons de dr E RA Xn = de E (fun d => dr E (fun as => RA (.dat d :: as)) Xn) Xn := rfl
@[simp] theorem dBoxA_s : dBoxA i dr E RA Xn = fun M => (E[i]? = some .box ∧ dr E (fun as => RA (.box :: as)) Xn M) := rfl
@[simp] theorem dRawA_s : dRawA i dr E RA Xn = fun M => ∃ v, E[i]? = some (.raw v) ∧ dr E (fun as => RA (.raw v :: as)) Xn M := rfl
@[simp] theorem dFz_s : dFz df E R Xn = df E (fun ds => R (.list ds)) Xn := rfl
@[simp] theorem noDct_n : noDct .none = true := rfl
@[simp] theorem noDct_b {b : Bool} : noDct (.bool b) = true := rfl
@[simp] theorem noDct_i {b : Int} : noDct (.int b) = true := rfl
@[simp] theorem noDct_s {b : Str} : noDct (.str b) = true := rfl
@[simp] theorem noDct_l {b : List PyData} : noDct (.list b) = true := rfl
@[simp] theorem noDct_t {b : List PyData} : noDct (.tuple b) = true := rfl
@[simp] theorem dIsi_s {T : String} : dIsi T de E R Xn = de E (fun d M => noDct d = true ∧ R (.bool (isD T d)) M) Xn := rfl
@[simp] theorem oNone_s : oNone E RO Xn = RO none := rfl
@[simp] theorem oSome_s : oSome de E RO Xn = de E (fun d M => asI d fun i => RO (some i) M) Xn := rfl
@[simp] theorem dSl_s {k : PyData → Option Int → Option Int → (PyData → Prop) → Prop} : dSl k de d1 d2 E R Xn = de E (fun d => d1 E (fun lo => d2 E (fun hi M => k d lo hi fun z => R z M) Xn) Xn) Xn := rfl
@[simp] theorem dSlF_s {k : PyData → Option Int → Option Int → (List PyData → Prop) → Prop} : dSlF k de d1 d2 E RF Xn = de E (fun d => d1 E (fun lo => d2 E (fun hi M => k d lo hi fun z => RF z M) Xn) Xn) Xn := rfl
@[simp] theorem dBw_s : dBw i de E R Xn = fun M => ∃ ds, E[i]? = some (.own ds) ∧ de (E.set i (.dat (.list ds))) (fun d _ => noL d = true ∧ R d M) XF Mu.no := rfl
@[simp] theorem dBwT_s : dBwT i dt E RT Xn = fun M => ∃ ds, E[i]? = some (.own ds) ∧ dt (E.set i (.dat (.list ds))) (fun b _ => RT b M) XF Mu.no := rfl
@[simp] theorem dBwF_s : dBwF i df E RF Xn = fun M => ∃ ds, E[i]? = some (.own ds) ∧ df (E.set i (.dat (.list ds))) (fun es _ => noLs es = true ∧ RF es M) XF Mu.no := rfl
@[simp] theorem dTru_s : dTru de E RT Xn = de E (fun d M => (noDct d = true ∧ small d) ∧ RT (truD d) M) Xn := rfl
@[simp] theorem dCall_s {sp : DSp} : dCall sp dr E R Xn = dr E (fun as M => sp as (fun d => R d M) (fun _ => False)) Xn := rfl
@[simp] theorem dCallF_s {sp : DSpF} : dCallF sp dr E RF Xn = dr E (fun as M => sp as (fun d => RF d M) (fun _ => False)) Xn := rfl
@[simp] theorem dCallX_s {sp : DSp} : dCallX sp dr E R Xn = dr E (fun as M => sp as (fun d => R d M) (fun x => Xn x M)) Xn := rfl
@[simp] theorem dCallXF_s {sp : DSpF} : dCallXF sp dr E RF Xn = dr E (fun as M => sp as (fun d => RF d M) (fun x => Xn x M)) Xn := rfl
@[simp] theorem dCallM_s {sp : DSpM} : dCallM sp dr E R Xn = dr E (fun as => sp as R XF) Xn := rfl
@[simp] theorem dCallMX_s {sp : DSpM} : dCallMX sp dr E R Xn = dr E (fun as => sp as R Xn) Xn := rfl
@[simp] theorem iSeqD_s : iSeqD de E RF Xn = de E (fun d M => asQ d fun ds => RF ds M) Xn := rfl
@[simp] theorem iRngD_s : iRngD da E RF Xn = da E (fun d M => asI d fun j => -(2 ^ 62) ≤ j ∧ j < 2 ^ 62 ∧ RF (rngD 0 j.toNat) M) Xn := rfl
@[simp] theorem iEnumD_s : iEnumD da E RF Xn = da E (fun d M => asL d fun ds => RF (enumD ds) M) Xn := rfl
@[simp] theorem iRevD_s : iRevD da E RF Xn = da E (fun d M => asL d fun ds => RF ds.reverse M) Xn := rfl
@[simp] theorem iZipD_s : iZipD da db E RF Xn = da E (fun d => db E (fun d' M => ∃ ds es, d = .list ds ∧ d' = .list es ∧ RF (zipD ds es) M) Xn) Xn := rfl
@[simp] theorem dLc_s {tg : Tgt} {vs : List Nat} : dLc di tg dt de vs E RF Xn = di E (fun items => lcGo tg dt de (wipeE E vs) RF items []) Xn := rfl
@[simp] theorem dYes_s : dYes E RT Xn = RT true := rfl
@[simp] theorem dNext_s : dNext D E = D.nx E := rfl
@[simp] theorem dSeq_s : dSeq sa sb D E = sa { D with nx := sb D } E := rfl
@[simp] theorem dSet_s : dSet i de D E = de E (fun d => D.nx (E.set i (.dat d))) (fun x => D.ex x E) := rfl
@[simp] theorem dSetT_s {t : Tgt} : dSetT t de D E = de E (fun d M => ∃ E', tgSet t d E = some E' ∧ D.nx E' M) (fun x => D.ex x E) := rfl
@[simp] theorem dSetO_s : dSetO i df D E = df E (fun ds => D.nx (E.set i (.own ds))) (fun x => D.ex x E) := rfl
@[simp] theorem dDrop_s : dDrop de D E = de E (fun _ => D.nx E) (fun x => D.ex x E) := rfl
@[simp] theorem dRet_s : dRet de D E = de E D.rt (fun x => D.ex x E) := rfl
@[simp] theorem dRetF_s : dRetF df D E = df E D.ro (fun x => D.ex x E) := rfl
@[simp] theorem dRetN_s : dRetN D E = D.rt .none := rfl
@[simp] theorem dRetO_s : dRetO i D E = fun M => ∃ ds, E[i]? = some (.own ds) ∧ D.ro ds M := rfl
@[simp] theorem dRetL_s : dRetL i D E = fun M => ∃ ds, E[i]? = some (.own ds) ∧ D.rt (.list ds) M := rfl
@[simp] theorem dIfS_s : dIfS dt sa sb D E = dt E (fun c M => (c = true → sa D E M) ∧ (c = false → sb D E M)) (fun x => D.ex x E) := rfl
@[simp] theorem dBreak_s : dBreak D E = D.bk E := rfl
@[simp] theorem dCont_s : dCont D E = D.ct E := rfl
@[simp] theorem dFor_s {t : Tgt} : dFor di t sa D E = di E (fun items => forGo t sa D items E) (fun x => D.ex x E) := rfl
@[simp] theorem dFrz_s : dFrz i sa D E = fun M => ∃ xs, E[i]? = some (.own xs) ∧ sa D (E.set i (.dat (.list xs))) M := rfl
@[simp] theorem dApp_s : dApp i de D E = fun M => ∃ ds, E[i]? = some (.own ds) ∧ de E (fun d M => ds.length < sizeLine ∧ D.nx (E.set i (.own (ds ++ [d]))) M) (fun x => D.ex x E) M := rfl
@[simp] theorem dPut_s : dPut i da de D E = de E (fun d M => ∃ ds, E[i]? = some (.own ds) ∧ da E (fun z M => ∃ k j, z = .int k ∧ ixN ds.length k = some j ∧ D.nx (E.set i (.own (ds.set j d))) M) (fun x => D.ex x E) M) (fun x => D.ex x E) := rfl
@[simp] theorem dIns_s : dIns i da de D E = fun M => ∃ ds, E[i]? = some (.own ds) ∧ da E (fun z => de E (fun d M => ∃ k, z = .int k ∧ ds.length < sizeLine ∧ 0 ≤ k ∧ k < 2 ^ 63 ∧ D.nx (E.set i (.own (ds.take k.toNat ++ [d] ++ ds.drop k.toNat))) M) (fun x => D.ex x E)) (fun x => D.ex x E) M := rfl
@[simp] theorem dRaise_s {n : Str} : dRaise n D E = D.ex (n, none) E := rfl
@[simp] theorem startE_s {n : Nat} {as : List En} : startE n as = as ++ List.replicate (n - as.length) .un := rfl
@[simp] theorem startLaw_s {n : Nat} : startLaw n = .un :: .box :: List.replicate (n - 2) .un := rfl
@[simp] theorem wipeE_n : wipeE E [] = E := rfl
@[simp] theorem wipeE_c {vs : List Nat} : wipeE E (i :: vs) = (wipeE E vs).set i .un := rfl
@[simp] theorem tgSet_nm : tgSet (.nm i) d E = some (E.set i (.dat d)) := rfl
@[simp] theorem tgSet_tp {is : List Nat} {ds : List PyData} : tgSet (.tp is) (.tuple ds) E = if is.length = ds.length then some (setAll is ds E) else none := rfl
@[simp] theorem setAll_n {ds : List PyData} : setAll [] ds E = E := by cases ds <;> rfl
@[simp] theorem setAll_c {is : List Nat} {ds : List PyData} : setAll (i :: is) (d :: ds) E = setAll is ds (E.set i (.dat d)) := rfl
end
/-! operators -/
section
variable {i j : Int} {b c : Bool} {x y : Str} {ds es : List PyData} {R : PyData → Prop} {RF : List PyData → Prop} {d e : PyData} {RO : Option Int → Prop}
@[simp] theorem fII_s {C : Int → Int → Prop} {g : Int → Int → PyData} : fII C g (.int i) (.int j) R = (C i j ∧ R (g i j)) := by
  apply propext
  exact ⟨fun ⟨_, _, e1, e2, h⟩ => by cases e1; cases e2; exact h, fun h => ⟨i, j, rfl, rfl, h⟩⟩
@[simp] theorem fAdd_i : fAdd (.int i) (.int j) R = R (.int (i + j)) := by
  apply propext
  exact ⟨fun ⟨_, e, _, h⟩ => by cases e; exact h, fun h => ⟨_, rfl, trivial, h⟩⟩
@[simp] theorem fAdd_l : fAdd (.list ds) (.list es) R = ((ds ++ es).length ≤ sizeLine ∧ R (.list (ds ++ es))) := by
  apply propext
  exact ⟨fun ⟨_, e, h⟩ => by cases e; exact h, fun h => ⟨_, rfl, h⟩⟩
@[simp] theorem fAdd_t : fAdd (.tuple ds) (.tuple es) R = ((ds ++ es).length ≤ sizeLine ∧ R (.tuple (ds ++ es))) := by
  apply propext
  exact ⟨fun ⟨_, e, h⟩ => by cases e; exact h, fun h => ⟨_, rfl, h⟩⟩
@[simp] theorem fAdd_s : fAdd (.str x) (.str y) R = ((x ++ y).length ≤ sizeLine ∧ R (.str (x ++ y))) := by
  apply propext
  exact ⟨fun ⟨_, e, h⟩ => by cases e; exact h, fun h => ⟨_, rfl, h⟩⟩
@[simp] theorem fSub_s : fSub (.int i) (.int j) R = R (.int (i - j)) := by unfold fSub; simp [CT]
@[simp] theorem fMul_s : fMul (.int i) (.int j) R = (CMul i j ∧ R (.int (i * j))) := by unfold fMul; simp
@[simp] theorem fDiv_s : fDiv (.int i) (.int j) R = (CDiv i j ∧ R (.int (i / j))) := by unfold fDiv; simp
@[simp] theorem fMod_s : fMod (.int i) (.int j) R = (0 < j ∧ R (.int (i % j))) := by unfold fMod; simp
@[simp] theorem fPow_s : fPow (.int i) (.int j) R = (CPow i j ∧ R (.int (i ^ j.toNat))) := by unfold fPow; simp
@[simp] theorem fLt_s : fLt (.int i) (.int j) R = R (.bool (decide (i < j))) := by unfold fLt; simp [CT]
@[simp] theorem fLe_s : fLe (.int i) (.int j) R = R (.bool (decide (i ≤ j))) := by unfold fLe; simp [CT]
@[simp] theorem fGt_s : fGt (.int i) (.int j) R = R (.bool (decide (j < i))) := by unfold fGt; simp [CT]
@[simp] theorem fGe_s : fGe (.int i) (.int j) R = R (.bool (decide (j ≤ i))) := by unfold fGe; simp [CT]
theorem sh_int : sh (.int i) = True := eq_true rfl
theorem sh_bool : sh (.bool b) = True := eq_true rfl
theorem sh_str : sh (.str x) = (PyData.strOk x = true) := by
  show (SeqAt.shaped (.str x) = true) = _
  unfold SeqAt.shaped
  rw [PyData.canLay0, PyData.depth]
  simp
theorem sh_none : sh .none := rfl
@[simp] theorem eqv_int : PyData.eqv (.int i) (.int j) = (i == j) := by rw [PyData.eqv]
@[simp] theorem eqv_str : PyData.eqv (.str x) (.str y) = (x == y) := by rw [PyData.eqv]
@[simp] theorem eqv_bool : PyData.eqv (.bool b) (.bool c) = (b == c) := by rw [PyData.eqv]
@[simp] theorem fEq_i : fEq (.int i) (.int j) R = R (.bool (decide (i = j))) := by
  have e : (i == j) = decide (i = j) := rfl
  unfold fEq
  rw [eqv_int, e, sh_int, sh_int]
  simp
@[simp] theorem fNe_i : fNe (.int i) (.int j) R = R (.bool (!decide (i = j))) := by
  have e : (i == j) = decide (i = j) := rfl
  unfold fNe
  rw [eqv_int, e, sh_int, sh_int]
  simp
@[simp] theorem fEq_b : fEq (.bool b) (.bool c) R = R (.bool (b == c)) := by
  unfold fEq
  rw [eqv_bool, sh_bool, sh_bool]
  simp
@[simp] theorem fNe_b : fNe (.bool b) (.bool c) R = R (.bool (!(b == c))) := by
  unfold fNe
  rw [eqv_bool, sh_bool, sh_bool]
  simp
@[simp] theorem fEq_st : fEq (.str x) (.str y) R = (PyData.strOk x = true ∧ PyData.strOk y = true ∧ R (.bool (x == y))) := by
  unfold fEq
  rw [eqv_str, sh_str, sh_str]
@[simp] theorem fNe_st : fNe (.str x) (.str y) R = (PyData.strOk x = true ∧ PyData.strOk y = true ∧ R (.bool (!(x == y)))) := by
  unfold fNe
  rw [eqv_str, sh_str, sh_str]
@[simp] theorem fIsN_s : fIsN d .none R = R (.bool (isN d)) := by unfold fIsN; simp
@[simp] theorem fNotN_s : fNotN d .none R = R (.bool (!isN d)) := by unfold fNotN; simp
@[simp] theorem isN_n : isN .none = true := rfl
@[simp] theorem isN_i : isN (.int i) = false := rfl
@[simp] theorem isN_l : isN (.list ds) = false := rfl
@[simp] theorem isN_t : isN (.tuple ds) = false := rfl
@[simp] theorem isN_b : isN (.bool b) = false := rfl
@[simp] theorem isN_s : isN (.str x) = false := rfl
@[simp] theorem fIx_l : fIx (.list ds) (.int i) R = (ds.length ≤ sizeLine ∧ ∃ z, atI ds i = some z ∧ R z) := by
  apply propext
  exact ⟨fun ⟨_, z, e, h1, h2, h3⟩ => by cases e; exact ⟨h1, z, h2, h3⟩, fun ⟨h1, z, h2, h3⟩ => ⟨i, z, rfl, h1, h2, h3⟩⟩
@[simp] theorem fIx_t : fIx (.tuple ds) (.int i) R = (ds.length ≤ sizeLine ∧ ∃ z, atI ds i = some z ∧ R z) := by
  apply propext
  exact ⟨fun ⟨_, z, e, h1, h2, h3⟩ => by cases e; exact ⟨h1, z, h2, h3⟩, fun ⟨h1, z, h2, h3⟩ => ⟨i, z, rfl, h1, h2, h3⟩⟩
@[simp] theorem fLen_l : fLen [.list ds] R = (ds.length ≤ sizeLine ∧ R (.int ds.length)) := by
  apply propext
  exact ⟨fun ⟨_, n, e, h1, h2, h3⟩ => by cases e; cases h1; exact ⟨h2, h3⟩, fun ⟨h1, h3⟩ => ⟨_, _, rfl, rfl, h1, h3⟩⟩
@[simp] theorem fLen_t : fLen [.tuple ds] R = (ds.length ≤ sizeLine ∧ R (.int ds.length)) := by
  apply propext
  exact ⟨fun ⟨_, n, e, h1, h2, h3⟩ => by cases e; cases h1; exact ⟨h2, h3⟩, fun ⟨h1, h3⟩ => ⟨_, _, rfl, rfl, h1, h3⟩⟩
@[simp] theorem fTuple_l : fTuple [.list ds] R = R (.tuple ds) := by
  apply propext
  exact ⟨fun ⟨_, n, e, h1, h2⟩ => by cases e; cases h1; exact h2, fun h1 => ⟨_, _, rfl, rfl, h1⟩⟩
@[simp] theorem fTuple_t : fTuple [.tuple ds] R = R (.tuple ds) := by
  apply propext
  exact ⟨fun ⟨_, n, e, h1, h2⟩ => by cases e; cases h1; exact h2, fun h1 => ⟨_, _, rfl, rfl, h1⟩⟩
@[simp] theorem fList_l : fList [.list ds] RF = RF ds := by
  apply propext
  exact ⟨fun ⟨_, n, e, h1, h2⟩ => by cases e; cases h1; exact h2, fun h1 => ⟨_, _, rfl, rfl, h1⟩⟩
@[simp] theorem fList_t : fList [.tuple ds] RF = RF ds := by
  apply propext
  exact ⟨fun ⟨_, n, e, h1, h2⟩ => by cases e; cases h1; exact h2, fun h1 => ⟨_, _, rfl, rfl, h1⟩⟩
@[simp] theorem fMin2_s : fMin2 [.int i, .int j] R = R (.int (if j < i then j else i)) := by
  apply propext
  exact ⟨fun ⟨_, _, e, h⟩ => by cases e; exact h, fun h => ⟨_, _, rfl, h⟩⟩
@[simp] theorem fMax2_s : fMax2 [.int i, .int j] R = R (.int (if j > i then j else i)) := by
  apply propext
  exact ⟨fun ⟨_, _, e, h⟩ => by cases e; exact h, fun h => ⟨_, _, rfl, h⟩⟩
theorem bools_map {α : Type} (xs : List α) (f : α → Bool) : xs.map (fun x => PyData.bool (f x)) = (xs.map f).map PyData.bool := by simp
theorem fAll_m {α : Type} {xs : List α} {f : α → Bool} (h : R (.bool (xs.all f))) : fAll [.list (xs.map fun x => PyData.bool (f x))] R := ⟨xs.map f, by rw [bools_map], by rw [List.all_map]; exact h⟩
theorem fAny_m {α : Type} {xs : List α} {f : α → Bool} (h : R (.bool (xs.any f))) : fAny [.list (xs.map fun x => PyData.bool (f x))] R := ⟨xs.map f, by rw [bools_map], by rw [List.any_map]; exact h⟩
@[simp] theorem fCutL_l {lo hi : Option Int} : fCutL (.list ds) lo hi RF = RF (cutD ds lo hi) := rfl
@[simp] theorem fCutA_l {lo hi : Option Int} : fCutA (.list ds) lo hi R = R (.list (cutD ds lo hi)) := rfl
@[simp] theorem fCutA_t {lo hi : Option Int} : fCutA (.tuple ds) lo hi R = R (.tuple (cutD ds lo hi)) := rfl
@[simp] theorem fCut_t {lo hi : Option Int} : fCut (.tuple ds) lo hi R = R (.tuple (cutD ds lo hi)) := rfl
@[simp] theorem isD_int_bool : isD "int" (.bool b) = true := by simp [isD, isS, tyD]
@[simp] theorem isD_int_int : isD "int" (.int i) = true := by simp [isD, isS, tyD]
@[simp] theorem isD_int_str : isD "int" (.str x) = false := by simp [isD, isS, tyD]
@[simp] theorem isD_int_list : isD "int" (.list ds) = false := by simp [isD, isS, tyD]
@[simp] theorem isD_int_tuple : isD "int" (.tuple ds) = false := by simp [isD, isS, tyD]
@[simp] theorem isD_int_none : isD "int" .none = false := by simp [isD, isS, tyD]
@[simp] theorem isD_bool_bool : isD "bool" (.bool b) = true := by simp [isD, isS, tyD]
@[simp] theorem isD_bool_int : isD "bool" (.int i) = false := by simp [isD, isS, tyD]
@[simp] theorem isD_bool_str : isD "bool" (.str x) = false := by simp [isD, isS, tyD]
@[simp] theorem isD_bool_list : isD "bool" (.list ds) = false := by simp [isD, isS, tyD]
@[simp] theorem isD_bool_tuple : isD "bool" (.tuple ds) = false := by simp [isD, isS, tyD]
@[simp] theorem isD_bool_none : isD "bool" .none = false := by simp [isD, isS, tyD]
@[simp] theorem isD_str_bool : isD "str" (.bool b) = false := by simp [isD, isS, tyD]
@[simp] theorem isD_str_int : isD "str" (.int i) = false := by simp [isD, isS, tyD]
@[simp] theorem isD_str_str : isD "str" (.str x) = true := by simp [isD, isS, tyD]
@[simp] theorem isD_str_list : isD "str" (.list ds) = false := by simp [isD, isS, tyD]
@[simp] theorem isD_str_tuple : isD "str" (.tuple ds) = false := by simp [isD, isS, tyD]
@[simp] theorem isD_str_none : isD "str" .none = false := by simp [isD, isS, tyD]
@[simp] theorem isD_list_bool : isD "list" (.bool b) = false := by simp [isD, isS, tyD]
@[simp] theorem isD_list_int : isD "list" (.int i) = false := by simp [isD, isS, tyD]
@[simp] theorem isD_list_str : isD "list" (.str x) = false := by simp [isD, isS, tyD]
@[simp] theorem isD_list_list : isD "list" (.list ds) = true := by simp [isD, isS, tyD]
@[simp] theorem isD_list_tuple : isD "list" (.tuple ds) = false := by simp [isD, isS, tyD]
@[simp] theorem isD_list_none : isD "list" .none = false := by simp [isD, isS, tyD]
@[simp] theorem isD_tuple_bool : isD "tuple" (.bool b) = false := by simp [isD, isS, tyD]
@[simp] theorem isD_tuple_int : isD "tuple" (.int i) = false := by simp [isD, isS, tyD]
@[simp] theorem isD_tuple_str : isD "tuple" (.str x) = false := by simp [isD, isS, tyD]
@[simp] theorem isD_tuple_list : isD "tuple" (.list ds) = false := by simp [isD, isS, tyD]
@[simp] theorem isD_tuple_tuple : isD "tuple" (.tuple ds) = true := by simp [isD, isS, tyD]
@[simp] theorem isD_tuple_none : isD "tuple" .none = false := by simp [isD, isS, tyD]
@[simp] theorem small_i : small (.int i) = True := rfl
@[simp] theorem small_b : small (.bool b) = True := rfl
@[simp] theorem small_n : small .none = True := rfl
@[simp] theorem small_l : small (.list ds) = (ds.length ≤ sizeLine) := rfl
@[simp] theorem small_t : small (.tuple ds) = (ds.length ≤ sizeLine) := rfl
@[simp] theorem small_s : small (.str x) = (x.length ≤ sizeLine) := rfl
@[simp] theorem truD_b : truD (.bool b) = b := rfl
@[simp] theorem truD_n : truD .none = false := rfl
@[simp] theorem truD_i : truD (.int i) = (i != 0) := rfl
@[simp] theorem truD_l : truD (.list ds) = !ds.isEmpty := rfl
@[simp] theorem truD_t : truD (.tuple ds) = !ds.isEmpty := rfl
@[simp] theorem seqD_l : seqD (.list ds) = some ds := rfl
@[simp] theorem seqD_t : seqD (.tuple ds) = some ds := rfl
@[simp] theorem noL_i : noL (.int i) = true := rfl
@[simp] theorem noL_b : noL (.bool b) = true := rfl
@[simp] theorem noL_n : noL .none = true := rfl
@[simp] theorem noL_s : noL (.str x) = true := rfl
@[simp] theorem noL_t : noL (.tuple ds) = noLs ds := rfl
@[simp] theorem noLs_n : noLs [] = true := rfl
@[simp] theorem noLs_c : noLs (d :: ds) = (noL d && noLs ds) := rfl
theorem noLs_all : ∀ {ds : List PyData}, (∀ d ∈ ds, noL d = true) → noLs ds = true
  | [], _ => rfl
  | d :: ds, h => by rw [noLs_c, h d (by simp), noLs_all fun d hd => h d (by simp [hd])]; rfl
end
section
variable {dr : DA} {E : List En} {M : Mu} {R : PyData → Mu → Prop} {RF : List PyData → Mu → Prop} {Xn : Er → Mu → Prop} {f : FC} {g : FCF}
/-- a display's, a built-in's arguments: data -/
def asD (as : List En) (Q : List PyData → Prop) : Prop := ∃ ds, as = ds.map .dat ∧ Q ds
@[simp] theorem asD_n {Q : List PyData → Prop} : asD [] Q = Q [] := by
  apply propext
  exact ⟨fun ⟨ds, e, q⟩ => by cases ds with
    | nil => exact q
    | cons => simp at e, fun q => ⟨[], rfl, q⟩⟩
@[simp] theorem asD_c {d : PyData} {as : List En} {Q : List PyData → Prop} : asD (.dat d :: as) Q = asD as fun ds => Q (d :: ds) := by
  apply propext
  exact ⟨fun ⟨ds, e, q⟩ => by cases ds with
    | nil => simp at e
    | cons d' ds => simp at e; obtain ⟨e1, e2⟩ := e; subst e1; exact ⟨ds, e2, q⟩, fun ⟨ds, e, q⟩ => ⟨d :: ds, by rw [e]; rfl, q⟩⟩
@[simp] theorem dTup_s : dTup dr E R Xn = dr E (fun as M => asD as fun ds => ds.length ≤ sizeLine ∧ R (.tuple ds) M) Xn := rfl
@[simp] theorem dLst_s : dLst dr E RF Xn = dr E (fun as M => asD as fun ds => ds.length ≤ sizeLine ∧ RF ds M) Xn := rfl
@[simp] theorem dCB_s : dCB f dr E R Xn = dr E (fun as M => asD as fun ds => f ds fun d => R d M) Xn := rfl
@[simp] theorem dCBF_s : dCBF g dr E RF Xn = dr E (fun as M => asD as fun ds => g ds fun d => RF d M) Xn := rfl
end

/-! ### comprehensions, loops -/
theorem sizeL : sizeLine = 16777216 := rfl
theorem lc_go {α : Type} (gx : α → PyData) (p : α → Bool) (f : α → PyData) {tg : Tgt} {dt : DT} {de : DE} {E : List En} {M : Mu} {R : List PyData → Mu → Prop} : ∀ (xs : List α) (acc : List PyData), acc.length + xs.length ≤ sizeLine →
    (∀ x ∈ xs, ∃ E', tgSet tg (gx x) E = some E' ∧ (∀ Q : Bool → Mu → Prop, Q (p x) M → dt E' Q XF M) ∧ (p x = true → ∀ Q : PyData → Mu → Prop, Q (f x) M → de E' Q XF M)) →
    R (acc ++ (xs.filter p).map f) M → lcGo tg dt de E R (xs.map gx) acc M
  | [], acc, _, _, hR => by
    show R acc M
    simpa using hR
  | x :: xs, acc, hl, h, hR => by
    obtain ⟨E', h1, h2, h3⟩ := h x (by simp)
    have hl' : acc.length + xs.length + 1 ≤ sizeLine := by simpa [Nat.add_assoc] using hl
    have rest : ∀ y ∈ xs, _ := fun y hy => h y (by simp [hy])
    refine ⟨E', h1, h2 _ ⟨fun hp => h3 hp _ ⟨by omega, ?_⟩, fun hp => ?_⟩⟩
    · refine lc_go gx p f xs _ (by simp; omega) rest ?_
      simpa [List.filter_cons, hp, List.append_assoc] using hR
    · refine lc_go gx p f xs _ (by omega) rest ?_
      simpa [List.filter_cons, hp] using hR
theorem lc_map {α : Type} (gx : α → PyData) (f : α → PyData) {tg : Tgt} {de : DE} {E : List En} {M : Mu} {R : List PyData → Mu → Prop} (xs : List α) (hl : xs.length ≤ sizeLine)
    (h : ∀ x ∈ xs, ∃ E', tgSet tg (gx x) E = some E' ∧ ∀ Q : PyData → Mu → Prop, Q (f x) M → de E' Q XF M) (hR : R (xs.map f) M) : lcGo tg dYes de E R (xs.map gx) [] M :=
  lc_go gx (fun _ => true) f xs [] (by simpa using hl) (fun x hx => by
    obtain ⟨E', h1, h2⟩ := h x hx
    exact ⟨E', h1, fun Q q => q, fun _ => h2⟩) (by rw [List.filter_eq_self.mpr (by simp)]; exact hR)
theorem lc_filter {α : Type} (gx : α → PyData) (p : α → Bool) (f : α → PyData) {tg : Tgt} {dt : DT} {de : DE} {E : List En} {M : Mu} {R : List PyData → Mu → Prop} (xs : List α) (hl : xs.length ≤ sizeLine)
    (h : ∀ x ∈ xs, ∃ E', tgSet tg (gx x) E = some E' ∧ (∀ Q : Bool → Mu → Prop, Q (p x) M → dt E' Q XF M) ∧ (p x = true → ∀ Q : PyData → Mu → Prop, Q (f x) M → de E' Q XF M)) (hR : R ((xs.filter p).map f) M) : lcGo tg dt de E R (xs.map gx) [] M :=
  lc_go gx p f xs [] (by simpa using hl) h (by simpa using hR)
/-- a for, cells and all -/
theorem for_invM {t : Tgt} {body : DS} {R : DEnds} (Inv : List PyData → List En → Mu → Prop) (hnil : ∀ E M, Inv [] E M → R.nx E M)
    (hcons : ∀ x r E M, Inv (x :: r) E M → ∃ E', tgSet t x E = some E' ∧ ∀ N : List En → Mu → Prop, (∀ E M, Inv r E M → N E M) → body { R with nx := N, ct := N, bk := R.nx } E' M) :
    ∀ (items : List PyData) (E : List En) (M : Mu), Inv items E M → forGo t body R items E M
  | [], E, M, h => hnil E M h
  | x :: r, E, M, h => by
    obtain ⟨E', h1, h2⟩ := hcons x r E M h
    exact ⟨E', h1, h2 _ fun E M h => for_invM Inv hnil hcons r E M h⟩
/-- .. that leaves all cells as they are -/
theorem for_inv {t : Tgt} {body : DS} {R : DEnds} {M : Mu} (Inv : List PyData → List En → Prop) (hnil : ∀ E, Inv [] E → R.nx E M)
    (hcons : ∀ x r E, Inv (x :: r) E → ∃ E', tgSet t x E = some E' ∧ ∀ N : List En → Mu → Prop, (∀ E, Inv r E → N E M) → body { R with nx := N, ct := N, bk := R.nx } E' M) :
    ∀ (items : List PyData) (E : List En), Inv items E → forGo t body R items E M := fun items E h =>
  for_invM (fun r E M' => Inv r E ∧ M' = M) (fun E M' ⟨h, e⟩ => by subst e; exact hnil E h) (fun x r E M' ⟨h, e⟩ => by
    subst e
    obtain ⟨E', h1, h2⟩ := hcons x r E h
    exact ⟨E', h1, fun N hN => h2 N fun E h => hN E _ ⟨h, rfl⟩⟩) items E M ⟨h, rfl⟩
/-- a while, cells and all -/
theorem while_invM {dt : DT} {body : DS} {R : DEnds} {M : Mu} {E : List En} (W : Nat → List En → Mu → Prop) (h0 : ∃ m, W m E M)
    (h : ∀ m E M, W m E M → ∀ N : List En → Mu → Prop, (∀ m' E M, m' < m → W m' E M → N E M) → dt E (fun c M' => (c = true → body { R with nx := N, ct := N, bk := R.nx } E M') ∧ (c = false → R.nx E M')) (fun x => R.ex x E) M) : dWhile dt body R E M :=
  ⟨W, h0, fun m E M w => h m E M w _ fun m' E M hm w => ⟨m', hm, w⟩⟩
/-- .. that leaves all cells as they are -/
theorem while_inv {dt : DT} {body : DS} {R : DEnds} {M : Mu} {E : List En} (W : Nat → List En → Prop) (h0 : ∃ m, W m E)
    (h : ∀ m E, W m E → ∀ N : List En → Mu → Prop, (∀ m' E, m' < m → W m' E → N E M) → dt E (fun c M' => (c = true → body { R with nx := N, ct := N, bk := R.nx } E M') ∧ (c = false → R.nx E M')) (fun x => R.ex x E) M) : dWhile dt body R E M :=
  while_invM (fun m E M' => W m E ∧ M' = M) (let ⟨m, h⟩ := h0; ⟨m, h, rfl⟩) fun m E M' ⟨w, e⟩ N hN => by subst e; exact h m E w N fun m' E hm w => hN m' E _ hm ⟨w, rfl⟩
theorem rng_map (n : Nat) : rngD 0 n = (List.range n).map fun i => .int (i : Nat) := by
  unfold rngD
  simp

/-! ### data that can be compared -/
def Lay (n : Nat) (d : PyData) : Prop := d.canLay0 = true ∧ d.depth ≤ n
def LayAll (n : Nat) (ds : List PyData) : Prop := PyData.canLayAll0 ds = true ∧ PyData.depthAll ds ≤ n
theorem Lay.sh {n : Nat} {d : PyData} (h : Lay n d) (hn : n ≤ 64) : sh d := by
  unfold Wx.sh SeqAt.shaped
  rw [h.1, decide_eq_true (Nat.le_trans h.2 hn)]
  rfl

theorem lay_int {n : Nat} {i : Int} : Lay n (.int i) := ⟨by rw [PyData.canLay0], by rw [PyData.depth]; omega⟩
theorem lay_bool {n : Nat} {i : Bool} : Lay n (.bool i) := ⟨by rw [PyData.canLay0], by rw [PyData.depth]; omega⟩
theorem lay_none {n : Nat} : Lay n .none := ⟨by rw [PyData.canLay0], by rw [PyData.depth]; omega⟩
theorem lay_str {n : Nat} {i : Str} (h : PyData.strOk i = true) : Lay n (.str i) := ⟨by rw [PyData.canLay0]; exact h, by rw [PyData.depth]; omega⟩
theorem lay_nil {n : Nat} : LayAll n [] := ⟨by rw [PyData.canLayAll0], by rw [PyData.depthAll]; omega⟩
theorem lay_cons {n : Nat} {d : PyData} {ds : List PyData} (h : Lay n d) (hs : LayAll n ds) : LayAll n (d :: ds) := ⟨by rw [PyData.canLayAll0, h.1, hs.1]; rfl, by rw [PyData.depthAll]; exact Nat.max_le.mpr ⟨h.2, hs.2⟩⟩
theorem lay_list {n : Nat} {ds : List PyData} (h : LayAll n ds) : Lay (n + 1) (.list ds) := ⟨by rw [PyData.canLay0]; exact h.1, by rw [PyData.depth]; have := h.2; omega⟩
theorem lay_tup {n : Nat} {ds : List PyData} (h : LayAll n ds) : Lay (n + 1) (.tuple ds) := ⟨by rw [PyData.canLay0]; exact h.1, by rw [PyData.depth]; have := h.2; omega⟩
theorem lay_map {α : Type} {n : Nat} {f : α → PyData} : ∀ {xs : List α}, (∀ x ∈ xs, Lay n (f x)) → LayAll n (xs.map f)
  | [], _ => lay_nil
  | x :: xs, h => lay_cons (h x (by simp)) (lay_map fun y hy => h y (by simp [hy]))

/-! ### what equality tells of data made alike -/
/-- an encoding that equality sees through -/
structure Enc {α : Type} [DecidableEq α] (f : α → PyData) : Prop where
  eq : ∀ x y, PyData.eqv (f x) (f y) = decide (x = y)
theorem enc_int : Enc PyData.int := ⟨fun x y => by rw [eqv_int]; rfl⟩
theorem enc_bool : Enc PyData.bool := ⟨fun x y => by rw [eqv_bool]; cases x <;> cases y <;> rfl⟩
theorem eqvAll_map {α : Type} [DecidableEq α] {f : α → PyData} (h : Enc f) : ∀ xs ys : List α, PyData.eqvAll (xs.map f) (ys.map f) = decide (xs = ys)
  | [], [] => by rw [List.map_nil, PyData.eqvAll]; rfl
  | [], y :: ys => by rw [List.map_nil, List.map_cons, PyData.eqvAll]; rfl
  | x :: xs, [] => by rw [List.map_nil, List.map_cons, PyData.eqvAll]; rfl
  | x :: xs, y :: ys => by
    rw [List.map_cons, List.map_cons, PyData.eqvAll, h.eq, eqvAll_map h xs ys, Bool.eq_iff_iff]
    simp
theorem enc_list {α : Type} [DecidableEq α] {f : α → PyData} (h : Enc f) : Enc fun xs : List α => PyData.list (xs.map f) := ⟨fun x y => by rw [PyData.eqv, eqvAll_map h]⟩
theorem enc_tup {α : Type} [DecidableEq α] {f : α → PyData} (h : Enc f) : Enc fun xs : List α => PyData.tuple (xs.map f) := ⟨fun x y => by rw [PyData.eqv, eqvAll_map h]⟩
/-- shades; a cell: its stain, its wax, its wish; a bolt -/
abbrev dP (p : List Int) : PyData := .tuple (p.map .int)
structure Cell where
  st : List Int
  wx : Bool
  ws : List Int
deriving DecidableEq
abbrev dC1 (c : Cell) : PyData := .tuple [dP c.st, .bool c.wx, dP c.ws]
abbrev dB (b : List Cell) : PyData := .list (b.map dC1)
theorem enc_dP : Enc dP := enc_tup enc_int
theorem enc_dC1 : Enc dC1 := ⟨fun x y => by
  obtain ⟨a, b, c⟩ := x
  obtain ⟨a', b', c'⟩ := y
  show PyData.eqv (.tuple [dP a, .bool b, dP c]) (.tuple [dP a', .bool b', dP c']) = _
  rw [PyData.eqv, PyData.eqvAll, PyData.eqvAll, PyData.eqvAll, PyData.eqvAll, enc_dP.eq, enc_dP.eq, enc_bool.eq, Bool.eq_iff_iff]
  simp⟩
theorem enc_dB : Enc dB := enc_list enc_dC1
theorem enc_ints : Enc fun xs : List Int => PyData.list (xs.map .int) := enc_list enc_int
theorem lay_dP {p : List Int} {n : Nat} : Lay (n + 1) (dP p) := lay_tup (lay_map fun _ _ => lay_int)
theorem lay_dC1 {c : Cell} {n : Nat} : Lay (n + 2) (dC1 c) := lay_tup (lay_cons lay_dP (lay_cons lay_bool (lay_cons lay_dP lay_nil)))
theorem lay_dB {b : List Cell} {n : Nat} : Lay (n + 3) (dB b) := lay_list (lay_map fun _ _ => lay_dC1)
theorem lay_ints {b : List Int} {n : Nat} : Lay (n + 1) (.list (b.map .int)) := lay_list (lay_map fun _ _ => lay_int)
@[simp] theorem sh_dP {p : List Int} : sh (dP p) = True := eq_true ((lay_dP (n := 0)).sh (by decide))
@[simp] theorem sh_dC1 {p : Cell} : sh (dC1 p) = True := eq_true ((lay_dC1 (n := 0)).sh (by decide))
@[simp] theorem sh_dB {p : List Cell} : sh (dB p) = True := eq_true ((lay_dB (n := 0)).sh (by decide))
@[simp] theorem sh_ints {p : List Int} : sh (.list (p.map .int)) = True := eq_true ((lay_ints (n := 0)).sh (by decide))
theorem fEq_enc {α : Type} [DecidableEq α] {f : α → PyData} (h : Enc f) {x y : α} {R : PyData → Prop} (hx : sh (f x) = True) (hy : sh (f y) = True) : fEq (f x) (f y) R = R (.bool (decide (x = y))) := by
  unfold fEq
  rw [hx, hy, h.eq]
  simp
theorem fNe_enc {α : Type} [DecidableEq α] {f : α → PyData} (h : Enc f) {x y : α} {R : PyData → Prop} (hx : sh (f x) = True) (hy : sh (f y) = True) : fNe (f x) (f y) R = R (.bool (!decide (x = y))) := by
  unfold fNe
  rw [hx, hy, h.eq]
  simp
@[simp] theorem fEq_P {p q : List Int} {R : PyData → Prop} : fEq (dP p) (dP q) R = R (.bool (decide (p = q))) := fEq_enc enc_dP sh_dP sh_dP
@[simp] theorem fNe_P {p q : List Int} {R : PyData → Prop} : fNe (dP p) (dP q) R = R (.bool (!decide (p = q))) := fNe_enc enc_dP sh_dP sh_dP
@[simp] theorem fEq_B {p q : List Cell} {R : PyData → Prop} : fEq (dB p) (dB q) R = R (.bool (decide (p = q))) := fEq_enc enc_dB sh_dB sh_dB
@[simp] theorem fNe_B {p q : List Cell} {R : PyData → Prop} : fNe (dB p) (dB q) R = R (.bool (!decide (p = q))) := fNe_enc enc_dB sh_dB sh_dB
@[simp] theorem fEq_C {p q : Cell} {R : PyData → Prop} : fEq (dC1 p) (dC1 q) R = R (.bool (decide (p = q))) := fEq_enc enc_dC1 sh_dC1 sh_dC1
@[simp] theorem fEq_I {p q : List Int} {R : PyData → Prop} : fEq (.list (p.map .int)) (.list (q.map .int)) R = R (.bool (decide (p = q))) := fEq_enc enc_ints sh_ints sh_ints
@[simp] theorem fNe_I {p q : List Int} {R : PyData → Prop} : fNe (.list (p.map .int)) (.list (q.map .int)) R = R (.bool (!decide (p = q))) := fNe_enc enc_ints sh_ints sh_ints
/-- an item of what was made alike -/
theorem atI_map {α β : Type} {f : α → β} {xs : List α} {i : Nat} (h : i < xs.length) : atI (xs.map f) (i : Int) = some (f xs[i]) := by
  unfold atI ixN
  rw [if_pos (by omega), if_pos (by simp; omega)]
  simp [h]
@[simp] theorem atI_0 {α : Type} {x : α} {xs : List α} : atI (x :: xs) 0 = some x := by
  unfold atI ixN
  rw [if_pos (by omega), if_pos (by simp only [List.length_cons]; omega)]
  rfl
@[simp] theorem atI_1 {α : Type} {x y : α} {xs : List α} : atI (x :: y :: xs) 1 = some y := by
  unfold atI ixN
  rw [if_pos (by omega), if_pos (by simp only [List.length_cons]; omega)]
  rfl
@[simp] theorem atI_2 {α : Type} {x y z : α} {xs : List α} : atI (x :: y :: z :: xs) 2 = some z := by
  unfold atI ixN
  rw [if_pos (by omega), if_pos (by simp only [List.length_cons]; omega)]
  rfl
end Wx

namespace Wx
open PySem PySem.Spec PyProof.Rows L2
@[simp] theorem fInt_b {b : Bool} {R : PyData → Prop} : fInt [.bool b] R = R (.int (if b then 1 else 0)) := by
  apply propext
  constructor
  · rintro (⟨i, e, h⟩ | ⟨c, e, h⟩ | ⟨a, n, e, _⟩)
    · cases e
    · cases e; exact h
    · cases e
  · exact fun h => .inr (.inl ⟨b, rfl, h⟩)
@[simp] theorem fInt_i {i : Int} {R : PyData → Prop} : fInt [.int i] R = R (.int i) := by
  apply propext
  constructor
  · rintro (⟨i, e, h⟩ | ⟨c, e, h⟩ | ⟨a, n, e, _⟩)
    · cases e; exact h
    · cases e
    · cases e
  · exact fun h => .inl ⟨i, rfl, h⟩
/-- a comprehension, whatever its parts do -/
theorem lc_invM {tg : Tgt} {dt : DT} {de : DE} {E : List En} {R : List PyData → Mu → Prop} (Inv : List PyData → List PyData → Mu → Prop) (hnil : ∀ acc M, Inv [] acc M → R acc M)
    (hcons : ∀ x r acc M, Inv (x :: r) acc M → ∃ E', tgSet tg x E = some E' ∧ ∀ N : List PyData → Mu → Prop, (∀ acc' M, Inv r acc' M → N acc' M) → dt E' (fun b M => (b = true → de E' (fun y M => acc.length < sizeLine ∧ N (acc ++ [y]) M) XF M) ∧ (b = false → N acc M)) XF M) :
    ∀ (items acc : List PyData) (M : Mu), Inv items acc M → lcGo tg dt de E R items acc M
  | [], acc, M, h => hnil acc M h
  | x :: r, acc, M, h => by
    obtain ⟨E', h1, h2⟩ := hcons x r acc M h
    exact ⟨E', h1, h2 _ fun acc' M h => lc_invM Inv hnil hcons r acc' M h⟩
theorem lc_inv {tg : Tgt} {dt : DT} {de : DE} {E : List En} {M : Mu} {R : List PyData → Mu → Prop} (Inv : List PyData → List PyData → Prop) (hnil : ∀ acc, Inv [] acc → R acc M)
    (hcons : ∀ x r acc, Inv (x :: r) acc → ∃ E', tgSet tg x E = some E' ∧ ∀ N : List PyData → Mu → Prop, (∀ acc', Inv r acc' → N acc' M) → dt E' (fun b M => (b = true → de E' (fun y M => acc.length < sizeLine ∧ N (acc ++ [y]) M) XF M) ∧ (b = false → N acc M)) XF M) :
    ∀ (items acc : List PyData), Inv items acc → lcGo tg dt de E R items acc M := fun items acc h =>
  lc_invM (fun r acc M' => Inv r acc ∧ M' = M) (fun acc M' ⟨h, e⟩ => by subst e; exact hnil acc h) (fun x r acc M' ⟨h, e⟩ => by
    subst e
    obtain ⟨E', h1, h2⟩ := hcons x r acc h
    exact ⟨E', h1, fun N hN => h2 N fun acc' h => hN acc' _ ⟨h, rfl⟩⟩) items acc M ⟨h, rfl⟩
/-- a number of draws, one after another: anything that Ok allows -/
theorem lc_draw {α β : Type} (gx : α → PyData) (en : β → PyData) (Ok : β → Prop) {tg : Tgt} {de : DE} {E : List En} {M : Mu} {R : List PyData → Mu → Prop} (xs : List α) (hl : xs.length ≤ sizeLine)
    (h : ∀ x ∈ xs, ∃ E', tgSet tg (gx x) E = some E' ∧ ∀ Q : PyData → Mu → Prop, (∀ y, Ok y → Q (en y) M) → de E' Q XF M) (hR : ∀ ys : List β, ys.length = xs.length → (∀ y ∈ ys, Ok y) → R (ys.map en) M) : lcGo tg dYes de E R (xs.map gx) [] M := by
  refine lc_inv (fun items acc => ∃ (r : List α) (ys : List β), items = r.map gx ∧ acc = ys.map en ∧ ys.length + r.length = xs.length ∧ (∀ x ∈ r, x ∈ xs) ∧ ∀ y ∈ ys, Ok y) ?_ ?_ _ _ ⟨xs, [], rfl, rfl, by simp, fun _ h => h, by simp⟩
  · rintro acc ⟨r, ys, e, rfl, hn, _, hy⟩
    cases r with
    | cons => simp at e
    | nil => exact hR ys (by simpa using hn) hy
  · rintro x r acc ⟨r', ys, e, rfl, hn, hx, hy⟩
    cases r' with
    | nil => simp at e
    | cons a r' =>
      simp at e
      obtain ⟨rfl, rfl⟩ := e
      obtain ⟨E', h1, h2⟩ := h a (hx a (by simp))
      simp at hn
      refine ⟨E', h1, fun N hN => ⟨fun _ => h2 _ fun y hy1 => ⟨by simp; omega, hN _ ⟨r', ys ++ [y], rfl, by simp, by simp; omega, fun x h => hx x (by simp [h]), fun z hz => ?_⟩⟩, fun f => by cases f⟩⟩
      rcases List.mem_append.mp hz with h | h
      · exact hy z h
      · simp at h; subst h; exact hy1
/-- the last put anew -/
theorem ixN_last {n : Nat} (h : 0 < n) : ixN n (-1) = some (n - 1) := by
  unfold ixN
  rw [if_neg (by omega), if_pos (by omega)]
  congr 1
  omega
@[simp] theorem take_s {n : Int} {R : PyData → Prop} {Xn : Er → Prop} : sp_take [.box, .dat (.int n)] R Xn = (0 < n ∧ n < 1073741824 ∧ ∀ i, 0 ≤ i → i < n → R (.int i)) := by
  apply propext
  constructor
  · rintro ⟨m, e, h⟩
    cases e
    exact h
  · exact fun h => ⟨n, rfl, h⟩
def asCat (x y : PyData) (R : List PyData → Prop) : Prop := ∃ xs ys, x = .list xs ∧ y = .list ys ∧ (xs ++ ys).length ≤ sizeLine ∧ R (xs ++ ys)
@[simp] theorem asCat_s {xs ys : List PyData} {R : List PyData → Prop} : asCat (.list xs) (.list ys) R = ((xs ++ ys).length ≤ sizeLine ∧ R (xs ++ ys)) := propext ⟨fun ⟨_, _, e1, e2, h⟩ => by cases e1; cases e2; exact h, fun h => ⟨_, _, rfl, rfl, h⟩⟩
@[simp] theorem dCat_s {da db : DE} {E : List En} {M : Mu} {R : List PyData → Mu → Prop} {Xn : Er → Mu → Prop} : dCat da db E R Xn = da E (fun x => db E (fun y M => asCat x y fun ds => R ds M) Xn) Xn := rfl
end Wx

namespace Wx
open PySem PySem.Spec PyProof.Rows L2
/-! ### whole numbers from 0, as data -/
abbrev natI (n : Nat) : PyData := .int n
abbrev dN (xs : List Nat) : PyData := .list (xs.map natI)
theorem enc_nat : Enc natI := ⟨fun x y => by
  show PyData.eqv (.int x) (.int y) = _
  rw [eqv_int, Bool.eq_iff_iff]
  simp
  omega⟩
theorem enc_dN : Enc dN := enc_list enc_nat
theorem lay_dN {b : List Nat} {n : Nat} : Lay (n + 1) (dN b) := lay_list (lay_map fun _ _ => lay_int)
theorem sh_dN {p : List Nat} : sh (dN p) = True := eq_true ((lay_dN (n := 0)).sh (by decide))
@[simp] theorem fEq_N {p q : List Nat} {R : PyData → Prop} : fEq (.list (p.map fun n : Nat => .int n)) (.list (q.map fun n : Nat => .int n)) R = R (.bool (decide (p = q))) := fEq_enc enc_dN sh_dN sh_dN
@[simp] theorem fNe_N {p q : List Nat} {R : PyData → Prop} : fNe (.list (p.map fun n : Nat => .int n)) (.list (q.map fun n : Nat => .int n)) R = R (.bool (!decide (p = q))) := fNe_enc enc_dN sh_dN sh_dN
@[simp] theorem fNe_N0 {p : List Nat} {R : PyData → Prop} : fNe (.list (p.map fun n : Nat => .int n)) (.list []) R = R (.bool (!decide (p = []))) := fNe_N (q := [])
@[simp] theorem fEq_N0 {p : List Nat} {R : PyData → Prop} : fEq (.list (p.map fun n : Nat => .int n)) (.list []) R = R (.bool (decide (p = []))) := fEq_N (q := [])
@[simp] theorem fNe_00 {R : PyData → Prop} : fNe (.list []) (.list []) R = R (.bool false) := by
  have := fNe_N (p := []) (q := []) (R := R)
  simpa using this
@[simp] theorem fEq_00 {R : PyData → Prop} : fEq (.list []) (.list []) R = R (.bool true) := by
  have := fEq_N (p := []) (q := []) (R := R)
  simpa using this
/-- lists of lists of whole numbers -/
abbrev dLN (T : List (List Nat)) : PyData := .list (T.map dN)
theorem enc_dLN : Enc dLN := enc_list enc_dN
theorem sh_dLN {p : List (List Nat)} : sh (dLN p) = True := eq_true ((lay_list (lay_map fun _ _ => lay_dN (n := 0))).sh (by decide))
@[simp] theorem fEq_LN {p q : List (List Nat)} {R : PyData → Prop} : fEq (.list (p.map dN)) (.list (q.map dN)) R = R (.bool (decide (p = q))) := fEq_enc enc_dLN sh_dLN sh_dLN
@[simp] theorem fNe_LN {p q : List (List Nat)} {R : PyData → Prop} : fNe (.list (p.map dN)) (.list (q.map dN)) R = R (.bool (!decide (p = q))) := fNe_enc enc_dLN sh_dLN sh_dLN
/-! ### lacking, needed -/
def sd (p : List Int) (d : Nat) : Int := (p[d]?).getD 0
theorem atI_sd {p : List Int} {d : Nat} (h : d < p.length) : atI (p.map PyData.int) (d : Int) = some (.int (sd p d)) := by
  rw [atI_map h]
  simp [sd, h]
abbrev c0 : Cell := ⟨[], false, []⟩
def lacksC (c : Cell) (d : Nat) : Bool := decide (sd c.st d < sd c.ws d)
def cellAt (b : List Cell) (i : Nat) : Cell := (b[i]?).getD c0
theorem atI_cell {b : List Cell} {i : Nat} (h : i < b.length) : atI (b.map dC1) (i : Int) = some (dC1 (cellAt b i)) := by
  rw [atI_map h]
  simp [cellAt, h]
theorem cellAt_mem {b : List Cell} {i : Nat} (h : i < b.length) : cellAt b i ∈ b := by
  simp [cellAt, h]
def lackL (b : List Cell) (d : Nat) : List Nat := (List.range b.length).filter fun i => lacksC (cellAt b i) d
def potsB : List Cell → Nat
  | [] => 0
  | c :: _ => c.st.length
def isNeeded (b : List Cell) (d : Nat) : Bool := b.any fun c => lacksC c d
def neededL (b : List Cell) : List Nat := (List.range (potsB b)).filter (isNeeded b)
def needL (b : List Cell) (n : Nat) : List Nat := (List.range n).filter (isNeeded b)
def Sized (n : Nat) (b : List Cell) : Prop := b.length ≤ 65536 ∧ n ≤ 65536 ∧ ∀ c ∈ b, c.st.length = n ∧ c.ws.length = n
theorem needed_iff {b : List Cell} {d : Nat} : isNeeded b d = true ↔ lackL b d ≠ [] := by
  unfold isNeeded lackL
  rw [List.any_eq_true]
  constructor
  · rintro ⟨c, hc, h⟩ e
    obtain ⟨i, hi, e2⟩ := List.getElem_of_mem hc
    have : i ∈ (List.range b.length).filter fun i => lacksC (cellAt b i) d := by
      rw [List.mem_filter]
      exact ⟨by simpa using hi, by simp [cellAt, hi, e2, h]⟩
    rw [e] at this
    cases this
  · intro h
    cases e : (List.range b.length).filter fun i => lacksC (cellAt b i) d with
    | nil => exact absurd e h
    | cons i r =>
      have : i ∈ (List.range b.length).filter fun i => lacksC (cellAt b i) d := by rw [e]; simp
      rw [List.mem_filter] at this
      have hi : i < b.length := by simpa using this.1
      exact ⟨_, cellAt_mem hi, this.2⟩
theorem filter_le {α : Type} {p : α → Bool} {xs : List α} : (xs.filter p).length ≤ xs.length := List.length_filter_le ..
end Wx

namespace Wx
open PySem PySem.Spec PyProof.Rows L2
/-! ### the order of the dyes -/
def freeB (b : List Cell) (o : Nat) : Bool := !b.any fun c => c.wx && lacksC c o
def subB (b : List Cell) (o p : Nat) : Bool := b.all fun c => !lacksC c o || lacksC c p
def withinB (b : List Cell) (o p : Nat) : Bool := subB b o p && (!subB b p o || decide (p < o))
def beneathB (b : List Cell) (o p : Nat) : Bool := if o = p ∨ o = 12 then false else if p = 12 then freeB b o else withinB b o p
theorem subB_iff {b : List Cell} {o p : Nat} : subB b o p = true ↔ ∀ c ∈ b, lacksC c o = true → lacksC c p = true := by
  unfold subB
  rw [List.all_eq_true]
  constructor
  · intro h c hc ho
    have := h c hc
    simpa [ho] using this
  · intro h c hc
    have := h c hc
    cases ho : lacksC c o <;> simp_all
theorem mem_lackL {b : List Cell} {d i : Nat} : i ∈ lackL b d ↔ i < b.length ∧ lacksC (cellAt b i) d = true := by
  unfold lackL
  rw [List.mem_filter]
  simp
theorem mem_cell {b : List Cell} {c : Cell} (h : c ∈ b) : ∃ i, i < b.length ∧ cellAt b i = c := by
  obtain ⟨i, hi, e⟩ := List.getElem_of_mem h
  exact ⟨i, hi, by simp [cellAt, hi, e]⟩
theorem sub_lackL {b : List Cell} {o p : Nat} : subB b o p = true ↔ ∀ i ∈ lackL b o, i ∈ lackL b p := by
  rw [subB_iff]
  constructor
  · intro h i hi
    rw [mem_lackL] at hi ⊢
    exact ⟨hi.1, h _ (cellAt_mem hi.1) hi.2⟩
  · intro h c hc ho
    obtain ⟨i, hi, rfl⟩ := mem_cell hc
    exact (mem_lackL.mp (h i (mem_lackL.mpr ⟨hi, ho⟩))).2
theorem lackL_eq {b : List Cell} {o p : Nat} : lackL b o = lackL b p ↔ subB b o p = true ∧ subB b p o = true := by
  constructor
  · intro e
    rw [sub_lackL, sub_lackL, e]
    exact ⟨fun _ h => h, fun _ h => h⟩
  · rintro ⟨h1, h2⟩
    rw [sub_lackL] at h1 h2
    unfold lackL
    apply List.filter_congr
    intro i hi
    have hi : i < b.length := by simpa using hi
    rw [Bool.eq_iff_iff]
    exact ⟨fun h => (mem_lackL.mp (h1 i (mem_lackL.mpr ⟨hi, h⟩))).2, fun h => (mem_lackL.mp (h2 i (mem_lackL.mpr ⟨hi, h⟩))).2⟩
theorem under_eq {b : List Cell} {o p : Nat} : (if lackL b o = lackL b p then decide (p < o) else (lackL b o).all fun i => decide (i ∈ lackL b p)) = withinB b o p := by
  unfold withinB
  by_cases e : lackL b o = lackL b p
  · obtain ⟨h1, h2⟩ := lackL_eq.mp e
    rw [if_pos e, h1, h2]
    simp
  · rw [if_neg e]
    have e2 : ((lackL b o).all fun i => decide (i ∈ lackL b p)) = subB b o p := by
      rw [Bool.eq_iff_iff, List.all_eq_true, sub_lackL]
      simp
    rw [e2]
    cases h1 : subB b o p
    · rfl
    · have : subB b p o = false := by
        cases h2 : subB b p o
        · rfl
        · exact absurd (lackL_eq.mpr ⟨h1, h2⟩) e
      rw [this]; rfl
theorem free_eq {b : List Cell} {o : Nat} : (!(lackL b o).any fun i => (cellAt b i).wx) = freeB b o := by
  unfold freeB
  congr 1
  rw [Bool.eq_iff_iff, List.any_eq_true, List.any_eq_true]
  constructor
  · rintro ⟨i, hi, h⟩
    rw [mem_lackL] at hi
    exact ⟨_, cellAt_mem hi.1, by simp [h, hi.2]⟩
  · rintro ⟨c, hc, h⟩
    obtain ⟨i, hi, rfl⟩ := mem_cell hc
    simp at h
    exact ⟨i, mem_lackL.mpr ⟨hi, h.2⟩, h.1⟩
@[simp] theorem fIn_N {neg : Bool} {i : Nat} {xs : List Nat} {R : PyData → Prop} : fIn neg (.int i) (.list (xs.map fun n : Nat => .int n)) R = R (.bool (neg != decide (i ∈ xs))) := by
  have h : ((xs.map natI).any fun z => PyData.eqv z (.int i)) = decide (i ∈ xs) := by
    rw [List.any_map, Bool.eq_iff_iff, List.any_eq_true]
    simp only [Function.comp_apply, eqv_int, decide_eq_true_eq]
    constructor
    · rintro ⟨x, hx, e⟩
      have : x = i := by simp at e; omega
      rw [← this]; exact hx
    · exact fun hx => ⟨i, hx, by simp⟩
  show (sh (.int i) ∧ sh (.list (xs.map natI)) ∧ R (.bool (neg != (xs.map natI).any fun z => PyData.eqv z (.int i)))) = _
  rw [h, sh_int, sh_dN]
  simp
theorem needed_lt {n : Nat} {b : List Cell} (h : Sized n b) {d : Nat} (hd : d ∈ neededL b) : d < n := by
  unfold neededL at hd
  rw [List.mem_filter] at hd
  have h1 : potsB b ≤ n := by
    cases b with
    | nil => exact Nat.zero_le _
    | cons c b => exact Nat.le_of_eq (h.2.2 c (by simp)).1
  have := hd.1
  simp at this
  omega
def membersL (b : List Cell) : List Nat := neededL b ++ [12]
theorem members_lt {n : Nat} {b : List Cell} (h : Sized n b) {d : Nat} (hd : d ∈ membersL b) : d < n ∨ d = 12 := by
  unfold membersL at hd
  rw [List.mem_append] at hd
  rcases hd with h1 | h1
  · exact .inl (needed_lt h h1)
  · simp at h1; exact .inr h1
theorem members_len {n : Nat} {b : List Cell} (h : Sized n b) : (membersL b).length ≤ n + 1 := by
  unfold membersL neededL
  have h1 : potsB b ≤ n := by
    cases b with
    | nil => exact Nat.zero_le _
    | cons c b => exact Nat.le_of_eq (h.2.2 c (by simp)).1
  have h2 := List.length_filter_le (isNeeded b) (List.range (potsB b))
  simp at h2 ⊢
  omega
theorem atI_nat {xs : List Nat} {i : Nat} (h : i < xs.length) : atI (xs.map fun n : Nat => PyData.int n) (i : Int) = some (.int (xs[i] : Nat)) := atI_map h
theorem cut_to {α : List PyData} {k : Nat} : cutD α none (some (k : Int)) = α.take k := by
  unfold cutD
  rw [HT.sIx_nat, HT.sIx_none, List.drop_zero, Nat.sub_zero]
  by_cases h : k ≤ α.length
  · rw [Nat.min_eq_left h]
  · rw [Nat.min_eq_right (by omega), List.take_length, List.take_of_length_le (by omega)]
theorem cut_from {α : List PyData} {k : Nat} : cutD α (some ((k : Int) + 1)) none = α.drop (k + 1) := by
  unfold cutD
  rw [show (k : Int) + 1 = ((k + 1 : Nat) : Int) from by omega, HT.sIx_nat, HT.sIx_none]
  by_cases h : k + 1 ≤ α.length
  · rw [Nat.min_eq_left h, List.take_of_length_le (by simp)]
  · rw [Nat.min_eq_right (by omega), List.drop_length, List.drop_eq_nil_of_le (by omega)]
    simp
def bump (p : List Int) (k : Nat) : List Int := p.set k (sd p k + 1)
end Wx

namespace Wx
open PySem PySem.Spec PyProof.Rows L2
/-! ### errors of the program's own: raised, caught -/
theorem takes_none {X : Cx} : Takes X WF := fun _ _ ⟨_, _, _, _, _, _, _, _, _, _, _, _, _, _, _, _, w⟩ => w.elim
/-- the class x is one of y's: all stand under WaxError alone -/
def exB (x y : Str) : Bool := decide (x = y) || decide (y = ("WaxError" : Str))
/-- what is known of the classes cs at the handlers' names hs -/
def ExK (K : PySem.W.Frag) (cs hs : List Str) : Prop := ∀ x ∈ cs, ∀ y ∈ hs, PySem.W.exmOne K (.ref (He.ga K x)) (.ref (He.ga K y)) = some (exB x y)
theorem exK_nil {K : PySem.W.Frag} {hs : List Str} : ExK K [] hs := fun _ h => nomatch h
theorem exK_cons {K : PySem.W.Frag} {x : Str} {cs hs : List Str} (h : ∀ y ∈ hs, PySem.W.exmOne K (.ref (He.ga K x)) (.ref (He.ga K y)) = some (exB x y)) (r : ExK K cs hs) : ExK K (x :: cs) hs := fun z hz => by
  rcases List.mem_cons.mp hz with e | hz
  · subst e; exact h
  · exact r z hz
theorem exR_nil {K : PySem.W.Frag} {x : Str} : ∀ y ∈ ([] : List Str), PySem.W.exmOne K (.ref (He.ga K x)) (.ref (He.ga K y)) = some (exB x y) := fun _ h => nomatch h
theorem exR_cons {K : PySem.W.Frag} {x y : Str} {hs : List Str} (h : PySem.W.exmOne K (.ref (He.ga K x)) (.ref (He.ga K y)) = some (exB x y)) (r : ∀ y ∈ hs, PySem.W.exmOne K (.ref (He.ga K x)) (.ref (He.ga K y)) = some (exB x y)) : ∀ z ∈ y :: hs, PySem.W.exmOne K (.ref (He.ga K x)) (.ref (He.ga K z)) = some (exB x z) := fun z hz => by
  rcases List.mem_cons.mp hz with e | hz
  · subst e; exact h
  · exact r z hz
def catchD (R : DEnds) (x : Er) (E : List En) (M : Mu) : List (Str × DS) → Prop
  | [] => R.ex x E M
  | (y, ds) :: r => (exB x.1 y = true → ds { R with ex := fun _ _ _ => False } E M) ∧ (exB x.1 y = false → catchD R x E M r)
/-- try: body, except y: .. -/
def dTry (cs : List Str) (hs : List (Str × DS)) (body : DS) : DS := fun R E => body { R with ex := fun x E' M => x.1 ∈ cs ∧ catchD R x E' M hs } E
inductive Hds (X : Cx) : List ExceptHandler → List (Str × DS) → Prop
  | nil : Hds X [] []
  | cons {y : Str} {ds : DS} {b₀ : Stmt} {suite : List Stmt} {np pos' : Pos} {hds : List ExceptHandler} {l : List (Str × DS)} (hc : Names X y (.ref (He.ga X.K y)))
      (hsu : ∀ (a : Addr) (pn : List (Addr × Obj)), QSs (X.suite a pn) WF (b₀ :: suite) ds) (r : Hds X hds l) :
      Hds X (.ExceptHandler (some (.Name y np)) none (b₀ :: suite) pos' :: hds) ((y, ds) :: l)
theorem Hds.ok {X : Cx} : ∀ {hds : List ExceptHandler} {l : List (Str × DS)}, Hds X hds l → HdsOk X hds (l.map fun p => (Value.ref (He.ga X.K p.1), fun _ _ _ => liftS X.K WF p.2))
  | _, _, .nil => .nil
  | _, _, .cons hc hsu r => .cons hc (fun a oe cls d pn _ _ => hsu a _) (Hds.ok r)
section
variable {X : Cx} {W : WX} {pos : Pos} {body : List Stmt} {h₀ : ExceptHandler} {hds : List ExceptHandler} {hs : List (Str × DS)} {db : DS} {cs : List Str}
theorem catch_ok {K : PySem.W.Frag} {R : DEnds} {D : Ends} {P : Pt} (L : Link K W P.bx P.G0 P.H0 R D) {x : Er} {cls : Value} {dd : Option Addr} {G : Gm} {H : Hp} {σ : L2.St} {E : List En} (s : SR K P.bx P.G0 P.H0 G H σ E) (er : ErOk K G H x cls dd) :
    ∀ (hs : List (Str × DS)), (∀ p ∈ hs, PySem.W.exmOne K (.ref (He.ga K x.1)) (.ref (He.ga K p.1)) = some (exB x.1 p.1)) → catchD R x E G.M hs → wMany K W D (hs.map fun p => (Value.ref (He.ga K p.1), fun _ _ _ => liftS K WF p.2)) cls dd σ H
  | [], _, h => L.ex x cls dd G H σ E s er h
  | (y, ds) :: r, hk, ⟨h1, h2⟩ => by
    obtain ⟨ec, _⟩ := id er
    refine ⟨exB x.1 y, by rw [ec]; exact hk (y, ds) (by simp), fun hb a ha => ?_, fun hb => catch_ok L s er r (fun p hp => hk p (by simp [hp])) (h2 hb)⟩
    refine ⟨⟨P.bx, P.G0, P.H0, G, E⟩, { R with ex := fun _ _ _ => False }, s, ?_, ⟨L.nx, L.rt, L.ro, L.bk, L.ct, fun _ _ _ _ _ _ _ _ _ f => f.elim⟩⟩
    exact h1 hb
theorem s_try (hst : X.stack = X.env :: X.outer) (hf : X.env.frame = some X.env.locals) (tk : Takes X W) (hx : ExK X.K cs (hs.map (·.1)))
    (hb : ∀ (W' : WX) (pn : List (Addr × Obj)) (xe : Value → Shared → Prop), Takes (X.tr pn xe) W' → PassesOwn (model X.prog X.w) X.A X.env xe → QSs (X.tr pn xe) W' body db) (hh : Hds X (h₀ :: hds) hs) : QS X W (.Try body (h₀ :: hds) [] [] pos) (dTry cs hs db) :=
  ps_imp (ps_try_many (tb := fun W2 => liftS X.K W2 db) hst hf tk hb hh.ok) fun D σ H ⟨P, R, S, h, L⟩ => ⟨P, _, S, h, ⟨L.nx, L.rt, L.ro, L.bk, L.ct, fun x cls dd G H σ E s er ⟨hm, hc⟩ =>
    catch_ok L s er hs (fun p hp => hx x.1 hm p.1 (List.mem_map_of_mem hp)) hc⟩⟩
/-- an error of the program's own -/
structure ErK (K : PySem.W.Frag) (mg : Str → Option Value) (x : Str) : Prop where
  g : mg x = some (.ref (He.ga K x))
  e : PySem.W.excIn K (He.ga K x) He.veBase "ValueError.__new__" = true
  k : PySem.W.keepIn K (.ref (He.ga K x)) = true
  s : PySem.W.subIn K (.ref (He.ga K x)) (.type "BaseException") = some true
  t : PySem.W.typeIn K (.ref (He.ga K x)) = some (.type "type")
theorem s_raiseOwn {n m : Str} {j : Nat} {p p2 pos2 : Pos} (x : ErK X.K X.mg n) (hc : X.calm = true) (tk : Takes X W) (hg : Gl X n := by rfl) (hdb : (n == ("__debug__" : Str)) = false := by decide) : QS X W (.Raise (some (.Call (.Name n p) [.Constant (.str m) j p2] [] pos2)) none pos) (dRaise n) :=
  s_raise hc tk (pmk_own PySem.F.excBase_ValueError x.e x.g x.k (raises_own x.s x.t) hg hdb) fun _ _ _ h => h
theorem names_own {n : Str} (x : ErK X.K X.mg n) (hg : Gl X n := by rfl) (hdb : (n == ("__debug__" : Str)) = false := by decide) : Names X n (.ref (He.ga X.K n)) := ⟨hg, hdb, .inl x.g⟩
end
@[simp] theorem dTry_s {cs : List Str} {hs : List (Str × DS)} {body : DS} {R : DEnds} {E : List En} {M : Mu} : dTry cs hs body R E = fun M => body { R with ex := fun x E' M => x.1 ∈ cs ∧ catchD R x E' M hs } E M := rfl
@[simp] theorem catchD_n {R : DEnds} {x : Er} {E : List En} {M : Mu} : catchD R x E M [] = R.ex x E M := rfl
@[simp] theorem catchD_c {R : DEnds} {x : Er} {E : List En} {M : Mu} {y : Str} {ds : DS} {r : List (Str × DS)} : catchD R x E M ((y, ds) :: r) = ((exB x.1 y = true → ds { R with ex := fun _ _ _ => False } E M) ∧ (exB x.1 y = false → catchD R x E M r)) := rfl
end Wx

namespace Wx
open PySem PySem.Spec PyProof.Rows L2
theorem subB_trans {b : List Cell} {o p q : Nat} (h1 : subB b o p = true) (h2 : subB b p q = true) : subB b o q = true := by
  rw [subB_iff] at *
  exact fun c hc h => h2 c hc (h1 c hc h)
theorem beneath_iff {b : List Cell} {o p : Nat} : beneathB b o p = true ↔ o ≠ p ∧ o ≠ 12 ∧ ((p = 12 ∧ freeB b o = true) ∨ (p ≠ 12 ∧ subB b o p = true ∧ (subB b p o = true → p < o))) := by
  unfold beneathB
  by_cases e1 : o = p
  · simp [e1]
  · by_cases e2 : o = 12
    · simp [e2]
    · by_cases e3 : p = 12
      · simp [e1, e2, e3]
      · rw [if_neg (by simp [e1, e2]), if_neg e3]
        unfold withinB
        cases h : subB b p o <;> simp [e1, e2, e3]
theorem beneath_irr {b : List Cell} {o : Nat} : beneathB b o o = false := by simp [beneathB]
theorem beneath_now {b : List Cell} {o : Nat} : beneathB b 12 o = false := by simp [beneathB]
theorem beneath_asym {b : List Cell} {o p : Nat} (h : beneathB b o p = true) : beneathB b p o = false := by
  cases h2 : beneathB b p o with
  | false => rfl
  | true =>
    rw [beneath_iff] at h h2
    obtain ⟨a1, a2, a3⟩ := h
    obtain ⟨b1, b2, b3⟩ := h2
    rcases a3 with ⟨e, _⟩ | ⟨_, s1, l1⟩
    · exact absurd e b2
    · rcases b3 with ⟨e, _⟩ | ⟨_, s2, l2⟩
      · exact absurd e a2
      · have := l1 s2
        have := l2 s1
        omega
theorem free_sub {b : List Cell} {o p : Nat} (h1 : subB b o p = true) (h2 : freeB b p = true) : freeB b o = true := by
  rw [subB_iff] at h1
  unfold freeB at *
  rw [Bool.not_eq_true', List.any_eq_false] at *
  intro c hc h
  simp at h
  exact h2 c hc (by simp [h.1, h1 c hc h.2])
theorem beneath_trans {b : List Cell} {o p q : Nat} (h1 : beneathB b o p = true) (h2 : beneathB b p q = true) : beneathB b o q = true := by
  rw [beneath_iff] at *
  obtain ⟨a1, a2, a3⟩ := h1
  obtain ⟨b1, b2, b3⟩ := h2
  rcases a3 with ⟨e, _⟩ | ⟨_, s1, l1⟩
  · exact absurd e b2
  · rcases b3 with ⟨rfl, f⟩ | ⟨hq, s2, l2⟩
    · exact ⟨a2, a2, .inl ⟨rfl, free_sub s1 f⟩⟩
    · have key : subB b q o = true → q < o := fun h => by
        have := l1 (subB_trans s2 h)
        have := l2 (subB_trans h s1)
        omega
      refine ⟨fun e => ?_, a2, .inr ⟨hq, subB_trans s1 s2, key⟩⟩
      subst e
      have := key (subB_iff.mpr fun _ _ h => h)
      omega
/-! ### sorting -/
theorem sorted_uniq : ∀ {xs ys : List Int}, xs.Perm ys → xs.Pairwise (· ≤ ·) → ys.Pairwise (· ≤ ·) → xs = ys
  | [], ys, h, _, _ => (List.nil_perm.mp h).symm
  | x :: xs, [], h, _, _ => absurd h.length_eq (by simp)
  | x :: xs, y :: ys, h, h1, h2 => by
    rw [List.pairwise_cons] at h1 h2
    have e : x = y := by
      have hx : x ∈ y :: ys := h.subset (by simp)
      have hy : y ∈ x :: xs := h.symm.subset (by simp)
      rcases List.mem_cons.mp hx with e | hx
      · exact e
      · rcases List.mem_cons.mp hy with e | hy
        · exact e.symm
        · have := h1.1 y hy
          have := h2.1 x hx
          omega
    subst e
    rw [sorted_uniq (List.Perm.cons_inv h) h1.2 h2.2]
def srt (xs : List Nat) : List Nat := xs.mergeSort fun a b => decide (a ≤ b)
theorem srt_perm (xs : List Nat) : (srt xs).Perm xs := List.mergeSort_perm ..
theorem srt_sorted (xs : List Nat) : (srt xs).Pairwise (· ≤ ·) := by
  have := List.pairwise_mergeSort (le := fun a b : Nat => decide (a ≤ b)) (fun a b c h1 h2 => by simp at *; omega) (fun a b => by simp; omega) xs
  exact this.imp fun h => by simpa using h
theorem srt_eq {xs ys : List Nat} (h : xs.Perm ys) : srt xs = srt ys := by
  have h1 : ((srt xs).map Int.ofNat).Perm ((srt ys).map Int.ofNat) := (((srt_perm xs).trans h).trans (srt_perm ys).symm).map _
  have e := sorted_uniq h1 (List.pairwise_map.mpr ((srt_sorted xs).imp fun h => Int.ofNat_le.mpr h)) (List.pairwise_map.mpr ((srt_sorted ys).imp fun h => Int.ofNat_le.mpr h))
  have inj : ∀ {a b : List Nat}, a.map Int.ofNat = b.map Int.ofNat → a = b := fun {a b} h => by
    have := congrArg (List.map Int.toNat) h
    simpa [Function.comp_def] using this
  exact inj e
theorem fSorted_N {xs : List Nat} {R : List PyData → Prop} (hl : xs.length < 64) (h : R ((srt xs).map natI)) : fSorted [.list (xs.map fun n : Nat => .int n)] R := by
  refine .inl ⟨xs.map Int.ofNat, by simp, by simpa using hl, fun ms hp hs => ?_⟩
  have e : ms = (srt xs).map Int.ofNat := sorted_uniq (hp.trans ((srt_perm xs).map _).symm) hs (List.pairwise_map.mpr ((srt_sorted xs).imp fun h => Int.ofNat_le.mpr h))
  rw [e, List.map_map]
  exact h
/-! ### tiers -/
def topB (b : List Cell) (xs : List Nat) (d : Nat) : Bool := !xs.any fun o => beneathB b d o
def topsOf (b : List Cell) (xs : List Nat) : List Nat := xs.filter (topB b xs)
def restOf (b : List Cell) (xs : List Nat) : List Nat := xs.filter fun d => !decide (d ∈ topsOf b xs)
def tiersF (b : List Cell) : Nat → List Nat → List (List Nat)
  | 0, _ => []
  | _ + 1, [] => []
  | k + 1, x :: xs => topsOf b (x :: xs) :: tiersF b k (restOf b (x :: xs))
theorem tiers_nil {b : List Cell} {k : Nat} : tiersF b k [] = [] := by cases k <;> rfl
theorem tiers_cons {b : List Cell} {k : Nat} {xs : List Nat} (h : xs ≠ []) : tiersF b (k + 1) xs = topsOf b xs :: tiersF b k (restOf b xs) := by
  cases xs with
  | nil => exact absurd rfl h
  | cons x xs => rfl
theorem bIrr {b : List Cell} {o : Nat} : beneathB b o o = false := by simp [beneathB]
theorem filter_lt {p q : Nat → Bool} : ∀ {xs : List Nat} {x : Nat}, (∀ y ∈ xs, p y = true → q y = true) → x ∈ xs → q x = true → p x = false → (xs.filter p).length < (xs.filter q).length
  | y :: ys, x, h, hx, hq, hp => by
    have le : (ys.filter p).length ≤ (ys.filter q).length := by
      have : ∀ zs : List Nat, (∀ z ∈ zs, p z = true → q z = true) → (zs.filter p).length ≤ (zs.filter q).length := fun zs => by
        induction zs with
        | nil => intro _; exact Nat.le_refl _
        | cons z zs ih =>
          intro hz
          have i1 := ih fun w hw => hz w (by simp [hw])
          rw [List.filter_cons, List.filter_cons]
          cases e1 : p z with
          | false =>
            cases e2 : q z <;> simp <;> omega
          | true =>
            rw [hz z (by simp) e1]
            simp; omega
      exact this ys fun z hz => h z (by simp [hz])
    rw [List.filter_cons, List.filter_cons]
    rcases List.mem_cons.mp hx with e | hx
    · subst e
      rw [hq, hp]
      simp; omega
    · have := filter_lt (fun z hz => h z (by simp [hz])) hx hq hp
      cases e1 : p y with
      | false => cases e2 : q y <;> simp <;> omega
      | true =>
        rw [h y (by simp) e1]
        simp; omega
variable {b : List Cell}
theorem above_top (tr : ∀ {o p q : Nat}, beneathB b o p = true → beneathB b p q = true → beneathB b o q = true) {xs : List Nat} : ∀ (n : Nat) (d : Nat), (xs.filter fun o => beneathB b d o).length ≤ n → d ∈ xs → ∃ t ∈ topsOf b xs, d = t ∨ beneathB b d t = true
  | n, d, hn, hd => by
    cases ht : topB b xs d with
    | true => exact ⟨d, List.mem_filter.mpr ⟨hd, ht⟩, .inl rfl⟩
    | false =>
      have : xs.any (fun o => beneathB b d o) = true := by
        unfold topB at ht
        simpa using ht
      obtain ⟨o, ho, hb⟩ := List.any_eq_true.mp this
      have lt := filter_lt (p := fun z => beneathB b o z) (q := fun z => beneathB b d z) (fun z _ hz => tr hb hz) ho hb bIrr
      cases n with
      | zero => omega
      | succ n =>
        obtain ⟨t, h1, h2⟩ := above_top tr n o (by omega) ho
        refine ⟨t, h1, .inr ?_⟩
        rcases h2 with e | h2
        · rw [← e]; exact hb
        · exact tr hb h2
theorem mem_rest {xs : List Nat} {d : Nat} (h : d ∈ restOf b xs) : d ∈ xs ∧ d ∉ topsOf b xs := by
  unfold restOf at h
  rw [List.mem_filter] at h
  exact ⟨h.1, by simpa using h.2⟩
theorem top_of {xs : List Nat} {d : Nat} (h : d ∈ topsOf b xs) : d ∈ xs ∧ ∀ o ∈ xs, beneathB b d o = false := by
  unfold topsOf at h
  rw [List.mem_filter] at h
  refine ⟨h.1, fun o ho => ?_⟩
  have := h.2
  unfold topB at this
  simp at this
  exact this o ho
theorem tops_ne (tr : ∀ {o p q : Nat}, beneathB b o p = true → beneathB b p q = true → beneathB b o q = true) {xs : List Nat} (h : xs ≠ []) : topsOf b xs ≠ [] := by
  cases xs with
  | nil => exact absurd rfl h
  | cons x xs =>
    obtain ⟨t, h1, _⟩ := above_top tr _ x (Nat.le_refl _) (show x ∈ x :: xs by simp)
    intro e
    rw [e] at h1
    cases h1
theorem rest_perm {xs : List Nat} : (topsOf b xs ++ restOf b xs).Perm xs := by
  have e : restOf b xs = xs.filter fun d => !topB b xs d := by
    unfold restOf
    apply List.filter_congr
    intro d hd
    congr 1
    rw [Bool.eq_iff_iff]
    simp [topsOf, hd]
  rw [e]
  exact List.filter_append_perm _ _
theorem rest_lt (tr : ∀ {o p q : Nat}, beneathB b o p = true → beneathB b p q = true → beneathB b o q = true) {xs : List Nat} (h : xs ≠ []) : (restOf b xs).length < xs.length := by
  have h1 := (rest_perm (b := b) (xs := xs)).length_eq
  have h2 := List.length_pos_iff.mpr (tops_ne tr h)
  rw [List.length_append] at h1
  omega
/-- each tier has something, and each of its next one's dyes is beneath one of it -/
def Good (b : List Cell) : List (List Nat) → Prop
  | [] => True
  | t :: r => t ≠ [] ∧ (∀ d ∈ r.headD [], ∃ o ∈ t, beneathB b d o = true) ∧ (∀ d ∈ t, ∀ o ∈ t, beneathB b d o = false) ∧ Good b r
theorem head_tiers {k : Nat} {xs : List Nat} {d : Nat} (h : d ∈ (tiersF b k xs).headD []) : d ∈ xs := by
  cases k with
  | zero => cases h
  | succ k =>
    cases xs with
    | nil => cases h
    | cons x xs => exact (top_of h).1
theorem tiers_good (tr : ∀ {o p q : Nat}, beneathB b o p = true → beneathB b p q = true → beneathB b o q = true) : ∀ (k : Nat) (xs : List Nat), xs.length ≤ k → Good b (tiersF b k xs)
  | 0, xs, _ => trivial
  | k + 1, xs, hk => by
    by_cases h : xs = []
    · rw [h, tiers_nil]; trivial
    · rw [tiers_cons h]
      have := rest_lt tr h
      refine ⟨tops_ne tr h, fun d hd => ?_, fun d hd o ho => (top_of hd).2 o (top_of ho).1, tiers_good tr k _ (by omega)⟩
      obtain ⟨h1, h2⟩ := mem_rest (head_tiers hd)
      obtain ⟨t, ht, e⟩ := above_top tr _ d (Nat.le_refl _) h1
      rcases e with e | e
      · rw [← e] at ht; exact absurd ht h2
      · exact ⟨t, ht, e⟩
theorem tiers_perm (tr : ∀ {o p q : Nat}, beneathB b o p = true → beneathB b p q = true → beneathB b o q = true) : ∀ (k : Nat) (xs : List Nat), xs.length ≤ k → (tiersF b k xs).flatten.Perm xs
  | 0, xs, hk => by
    have : xs = [] := List.eq_nil_of_length_eq_zero (by omega)
    rw [this]; exact List.Perm.refl _
  | k + 1, xs, hk => by
    by_cases h : xs = []
    · rw [h, tiers_nil]; exact List.Perm.refl _
    · rw [tiers_cons h, List.flatten_cons]
      have := rest_lt tr h
      exact ((tiers_perm tr k _ (by omega)).append_left _).trans rest_perm
/-- a chain out of the tiers -/
def chainF (b : List Cell) : List (List Nat) → List Nat
  | [] => []
  | t :: r => match chainF b r with
    | [] => [t.headD 0]
    | x :: c => (t.filter fun d => beneathB b x d).headD 0 :: x :: c
theorem headD_mem {t : List Nat} (h : t ≠ []) : t.headD 0 ∈ t := by
  cases t with
  | nil => exact absurd rfl h
  | cons x t => simp
theorem chain_head : ∀ {L : List (List Nat)}, Good b L → L ≠ [] → ∃ x c, chainF b L = x :: c ∧ x ∈ L.headD []
  | [], _, h => absurd rfl h
  | t :: r, g, _ => by
    obtain ⟨g1, g2, g3, g4⟩ := g
    cases hr : r with
    | nil => exact ⟨t.headD 0, [], rfl, headD_mem g1⟩
    | cons t2 r2 =>
      obtain ⟨x, c, e, hx⟩ := chain_head g4 (by rw [hr]; simp)
      obtain ⟨o, ho, hb⟩ := g2 x hx
      refine ⟨(t.filter fun d => beneathB b x d).headD 0, x :: c, ?_, ?_⟩
      · rw [hr] at e
        show (match chainF b (t2 :: r2) with
          | [] => [t.headD 0]
          | x :: c => (t.filter fun d => beneathB b x d).headD 0 :: x :: c) = _
        rw [e]
      · have := headD_mem (t := t.filter fun d => beneathB b x d) (fun e => by
          have : o ∈ t.filter fun d => beneathB b x d := List.mem_filter.mpr ⟨ho, hb⟩
          rw [e] at this; cases this)
        exact (List.mem_filter.mp this).1
theorem chain_cons {t : List Nat} {r : List (List Nat)} (g : Good b (t :: r)) (hr : r ≠ []) : ∃ x c, chainF b r = x :: c ∧ chainF b (t :: r) = (t.filter fun d => beneathB b x d).headD 0 :: x :: c ∧ (t.filter fun d => beneathB b x d) ≠ [] := by
  obtain ⟨g1, g2, g3, g4⟩ := g
  obtain ⟨x, c, e, hx⟩ := chain_head g4 hr
  obtain ⟨o, ho, hb⟩ := g2 x hx
  refine ⟨x, c, e, ?_, fun e2 => ?_⟩
  · show (match chainF b r with
      | [] => [t.headD 0]
      | x :: c => (t.filter fun d => beneathB b x d).headD 0 :: x :: c) = _
    rw [e]
  · have : o ∈ t.filter fun d => beneathB b x d := List.mem_filter.mpr ⟨ho, hb⟩
    rw [e2] at this; cases this
theorem chain_len : ∀ {L : List (List Nat)}, Good b L → (chainF b L).length = L.length
  | [], _ => rfl
  | t :: r, g => by
    by_cases hr : r = []
    · subst hr; rfl
    · obtain ⟨x, c, e1, e2, _⟩ := chain_cons g hr
      have := chain_len g.2.2.2
      rw [e1] at this
      rw [e2]
      simp at this ⊢
      omega
theorem chain_mem : ∀ {L : List (List Nat)}, Good b L → ∀ d ∈ chainF b L, d ∈ L.flatten
  | [], _, d, h => by cases h
  | t :: r, g, d, h => by
    by_cases hr : r = []
    · subst hr
      have : d = t.headD 0 := by simpa [chainF] using h
      rw [this, List.flatten_cons]
      exact List.mem_append_left _ (headD_mem g.1)
    · obtain ⟨x, c, e1, e2, e3⟩ := chain_cons g hr
      rw [e2] at h
      rw [List.flatten_cons, List.mem_append]
      rcases List.mem_cons.mp h with e | h
      · rw [e]
        exact .inl (List.mem_filter.mp (headD_mem e3)).1
      · exact .inr (chain_mem g.2.2.2 d (by rw [e1]; exact h))
theorem chain_pw (tr : ∀ {o p q : Nat}, beneathB b o p = true → beneathB b p q = true → beneathB b o q = true) : ∀ {L : List (List Nat)}, Good b L → (chainF b L).Pairwise fun a c => beneathB b c a = true
  | [], _ => .nil
  | t :: r, g => by
    by_cases hr : r = []
    · subst hr
      exact List.pairwise_singleton ..
    · obtain ⟨x, c, e1, e2, e3⟩ := chain_cons g hr
      have ih := chain_pw tr g.2.2.2
      rw [e1] at ih
      rw [e2]
      have hy := (List.mem_filter.mp (headD_mem e3)).2
      refine List.pairwise_cons.mpr ⟨fun z hz => ?_, ih⟩
      rcases List.mem_cons.mp hz with e | hz
      · rw [e]; exact hy
      · exact tr ((List.pairwise_cons.mp ih).1 z hz) hy
def clashB (b : List Cell) (o p : Nat) : Bool := !decide (o = p) && (!beneathB b o p && !beneathB b p o)
theorem len_flatten {L : List (List Nat)} : ∀ {t : List Nat}, t ∈ L → t.length ≤ L.flatten.length := fun {t} ht => by
  induction L with
  | nil => cases ht
  | cons u L ih =>
    rw [List.flatten_cons, List.length_append]
    rcases List.mem_cons.mp ht with e | h
    · rw [e]; omega
    · have := ih h; omega
theorem good_len {b : List Cell} : ∀ {L : List (List Nat)}, Good b L → L.length ≤ L.flatten.length
  | [], _ => Nat.le_refl _
  | t :: r, g => by
    have := good_len g.2.2.2
    have := List.length_pos_iff.mpr g.1
    rw [List.flatten_cons, List.length_append, List.length_cons]
    omega
end Wx

namespace Wx
open PySem PySem.Spec PyProof.Rows L2
/-! ### how many different numbers stand in a tuple -/
def tDiff (K : PySem.W.Frag) (ta : TE) : TE := fun σ H Q => ta σ H fun x H1 => ∃ (l : Addr) (ns : List Int), x = .ref l ∧ SqT K H1 l (ns.map V.int) ∧ ns.length ≤ 4000 ∧ ∀ ks : List Int, ks.Nodup → (∀ k, k ∈ ks ↔ k ∈ ns) → Q (.int (ks.length : Nat)) H1
theorem ints_of : ∀ {ns : List Int} {us : List Value}, Vals (ns.map V.int) us → PyProof.Rows.IntsAre us ns
  | [], _, .nil => .nil
  | m :: ms, _, .cons q w => by
    obtain ⟨j, hj⟩ := q
    rw [hj]
    exact .cons m j (ints_of w)
theorem pe_diff {X : Cx} {a : Expr} {ta : TE} {p p2 q pos : Pos} (fr : Fr X.mg) (ha : PE X a ta) (hg : Gl X "len" := by rfl) (hg2 : Gl X "set" := by rfl) (hc : X.calm = true := by rfl)
    (na : starEach [a] X.env = (false, eval a X.env) :: starEach [] X.env := by rfl) : PE X (.Call (.Name "len" p) [.Call (.Name "set" p2) [a] [] q] [] pos) (tDiff X.K ta) := by
  constructor
  intro pins s σ H Q I h
  apply Call_ (ld_blt I hg fr.len boot_len ?_)
  apply callWith_builtin1 (args_cons ?_ rfl) rfl rfl
  apply Call_ (ld_blt I hg2 fr.set boot_set ?_)
  apply callWith_type1 (args_cons (thn (ha.run pins s σ H _ I h) ?_) na) na rfl
  rintro v s1 ⟨x, H1, I1, r1, l, ns, rfl, hq, hl, q1⟩
  refine args_nil ?_
  cases r1
  obtain ⟨its, r, ⟨ol, h1, h2, n, h3⟩, hz⟩ := I1.tuple hq
  have il := ints_of r
  refine call_set_tupI ns (I1.ok.hd hc) ⟨ol, h1, h2, n, h3⟩ (by simpa using il) (by unfold scanBound; omega) fun h' tk c R hcn hk => ?_
  refine args_nil ?_
  obtain ⟨o, es, ep, t, ho, hex, hd, _, nd, mem, hsz, hf, hn, _⟩ := R
  have J : Inv X pins σ H1 { s1 with heap := h', toks := tk } := I1.kept hk
  have e : (es.toList.map keyOf).length = es.size := by simp
  have fin := q1 (es.toList.map keyOf) nd fun k => by rw [← mem k]; simp
  rw [e] at fin
  refine call_len_set ho hex hd hf ?_ ⟨.int es.size, H1, J.tok _, ⟨_, rfl⟩, fin⟩
  have : scanBound = 4096 := rfl
  omega
/-! ### a list backwards -/
theorem pick_back (its : List Value) : slicePick its.toArray none none (some (-1)) = its.reverse.toArray := by
  unfold slicePick
  congr 1
  have hb : sliceBounds none none (some (-1)) its.toArray.size = ((its.length : Int) - 1, -1, -1) := by
    simp [sliceBounds]
  rw [hb]
  have hr : sliceRange ((its.length : Int) - 1) (-1) (-1) = (List.range its.length).map fun k : Nat => its.length - 1 - k := by
    unfold sliceRange
    by_cases h : its.length = 0
    · simp [h]
    · have e : (if (-1 : Int) > 0 then (if (its.length : Int) - 1 < -1 then (-1 - ((its.length : Int) - 1) + -1 - 1) / -1 else 0) else (if (its.length : Int) - 1 > -1 then ((its.length : Int) - 1 - -1 - -1 - 1) / (- -1) else 0)) = (its.length : Int) := by
        rw [if_neg (by decide), if_pos (by omega), show (- -1 : Int) = 1 from rfl, Int.ediv_one]
        omega
      simp only [e, Int.toNat_natCast]
      apply List.map_congr_left
      intro k hk
      simp at hk
      omega
  show ((sliceRange ((its.length : Int) - 1) (-1) (-1)).filterMap (its.toArray[·]?)) = _
  rw [hr, List.filterMap_map]
  have : ∀ n, n ≤ its.length → (List.range n).filterMap ((fun x => its.toArray[x]?) ∘ fun k => its.length - 1 - k) = its.reverse.take n := fun n => by
    induction n with
    | zero => intro _; rfl
    | succ n ih =>
      intro hn
      rw [List.range_succ, List.filterMap_append, ih (by omega), List.take_add_one]
      congr 1
      have hn2 : its.length - 1 - n < its.length := by omega
      simp [hn2, List.getElem?_reverse (show n < its.length by omega)]
  have q := this its.length (Nat.le_refl _)
  rw [q, List.take_of_length_le (by simp)]
def tBack (K : PySem.W.Frag) (te : TE) (ts : TO) : TE := fun σ H Q => te σ H fun x H1 => ts σ H1 fun o H2 => o = some (-1) ∧ ∃ a xs, x = .ref a ∧ SqL K H2 a xs ∧ ∀ p, H2 p = none → Q (.ref p) (upd H2 p (.lst xs.reverse))
theorem pe_back {X : Cx} {e : Expr} {st : Option Expr} {te : TE} {ts : TO} {p2 pos : Pos} (he : PE X e te) (hs : PO X st ts) (hsub : ∀ x y : Value, subscripted (.Slice none none st p2) false x y = operate [x, y] (getItem x y) := by intro _ _; with_unfolding_all rfl) : PE X (.Subscript e (.Slice none none st p2) pos) (tBack X.K te ts) := by
  constructor
  intro pins s σ H Q I h
  apply Subscript_ (thn (he.run pins s σ H _ I h) ?_)
  rintro v s1 ⟨x, H1, I1, r1, q1⟩
  apply wpAny_Slice
  rw [evalPart_none]
  apply wpAny_pure
  apply wpAny_pure
  apply thn (hs.run pins s1 σ H1 _ I1 q1)
  rintro vs s2 ⟨o, H2, I2, ps, rfl, a, xs, rfl, hq, q2⟩
  cases r1
  have J : Inv X pins σ H2 { s2 with heap := s2.heap.push { cls := .type "slice", data := .fields #[.none, .none, vs] } } := I2.kept (t' := s2.toks) fun b ob q => Heap.get?_push_of_some _ q
  obtain ⟨its, r, ht, hz⟩ := J.list hq
  have hlen := r.length
  show wpAny (model X.prog X.w) X.A (subscriptTail e (.Slice none none st p2) (.ref a) (.ref s2.heap.objs.size)) (EP X pins σ Q) X.xe { s2 with heap := s2.heap.push { cls := .type "slice", data := .fields #[.none, .none, vs] } }
  refine tail_any (ops := [.ref a, .ref s2.heap.objs.size]) ht.isList.typeIs slot_list_getitem.lookup ?_ (hsub _ _)
  refine wpAny_getItem_list_slice ht.isList (Heap.IsSliceOf.new ..) .none .none ps (by simp) ?_ (by rw [List.size_toArray] <;> omega)
  rw [pick_back]
  refine ⟨.ref _, _, J.laid (t' := s2.toks) (o := .lst xs.reverse) (fun b ob q => Heap.get?_push_of_some _ q) (Nat.le_refl _) ?_, rfl, q2 _ ?_⟩
  · exact ⟨by rw [List.length_reverse]; exact hz, _, 0, r.reverse, Heap.get?_push_size _ rfl⟩
  · exact J.hok.fresh (Nat.le_refl _)
/-! over data -/
def asDiff (d : PyData) (R : PyData → Prop) : Prop := ∃ ns : List Int, d = .tuple (ns.map .int) ∧ ns.length ≤ 4000 ∧ ∀ ks : List Int, ks.Nodup → (∀ k, k ∈ ks ↔ k ∈ ns) → R (.int (ks.length : Nat))
def dDiff (de : DE) : DE := fun E R Xn => de E (fun d M => asDiff d fun z => R z M) Xn
def asRev (d : PyData) (o : Option Int) (R : List PyData → Prop) : Prop := o = some (-1) ∧ ∃ ds, d = .list ds ∧ R ds.reverse
def dBack (de : DE) (d1 : DO) : DF := fun E R Xn => de E (fun d => d1 E (fun o M => asRev d o fun z => R z M) Xn) Xn
def asRng (d : PyData) (R : List PyData → Prop) : Prop := ∃ n : Nat, d = .int n ∧ n ≤ 16777216 ∧ R (rngD 0 n)
def dRngL (de : DE) : DF := fun E R Xn => de E (fun d M => asRng d fun ds => R ds M) Xn
theorem RpAll.rev {K : PySem.W.Frag} {G : Hp} : ∀ {xs : List V} {ds : List PyData}, RpAll K G xs ds → RpAll K G xs.reverse ds.reverse
  | _, _, .nil => .nil
  | _, _, .cons r t => by
    rw [List.reverse_cons, List.reverse_cons]
    exact (RpAll.rev t).app (.cons r .nil)
section
variable {X : Cx} {W : WX} {pos p p2 q : Pos} {a : Expr} {st : Option Expr} {da : DE} {d1 : DO}
theorem q_diff (fr : Fr X.mg) (ha : QE X W a da) (hg : Gl X "len" := by rfl) (hg2 : Gl X "set" := by rfl) (hc : X.calm = true := by rfl) (na : starEach [a] X.env = (false, eval a X.env) :: starEach [] X.env := by rfl) :
    QE X W (.Call (.Name "len" p) [.Call (.Name "set" p2) [a] [] q] [] pos) (dDiff da) := pe_imp (pe_diff fr ha hg hg2 hc na) fun σ H Q ⟨P, R, Xn, S, h, kq, kx⟩ =>
  ⟨P, _, Xn, S, h, fun v G1 H1 d e1 S1 r1 ⟨ns, ed, hl, hR⟩ => (by
    subst ed
    cases r1 with
    | @tup a xs ds h a1 =>
      have e := a1.ints
      subst e
      exact ⟨_, ns, rfl, SqT.of (S1.w.s _ _ h), hl, fun ks h1 h2 => kq _ G1 H1 _ e1 S1 (.int _) (hR ks h1 h2)⟩), kx⟩
theorem f_back (ha : QE X W a da) (h1 : QO X W st d1) (hsub : ∀ x y : Value, subscripted (.Slice none none st p2) false x y = operate [x, y] (getItem x y) := by intro _ _; with_unfolding_all rfl) : QF X W (.Subscript a (.Slice none none st p2) pos) (dBack da d1) :=
  pe_imp (pe_back ha h1 hsub) fun σ H Q ⟨P, R, Xn, S, h, kq, kx⟩ =>
  ⟨P, _, Xn, S, h, fun v G1 H1 d e1 S1 r1 h1 => ⟨P.go G1, _, Xn, S1, h1, fun o G2 H2 e2 S2 ⟨eo, ds, ed, hR⟩ => (by
    subst ed
    have r2 := r1.up e2.g
    cases r2 with
    | @lst a xs ds h4 a4 =>
      refine ⟨eo, a, xs, rfl, SqL.of (S2.w.s _ _ h4), fun p hp => ?_⟩
      have en : Gro G2.G H2 G2.G (upd H2 p (.lst xs.reverse)) := Gro.own hp
      have e := e1.trans e2
      exact kq p _ G2 _ _ (e.trans en.any) (S2.pure en (same_own S2.w.s hp)) (e.none_of hp) (S2.w.s.free hp) (S2.w.m_none hp) upd_same a4.rev hR), kx⟩, kx⟩
theorem f_rng {pos2 : Pos} (fr : Fr X.mg) (hc : X.calm = true) (ha : QE X W a da) (hg : Gl X "list" := by rfl) (hg2 : Gl X "range" := by rfl) (na : starEach [a] X.env = (false, eval a X.env) :: starEach [] X.env := by rfl)
    (nb : starEach [.Call (.Name "range" p2) [a] [] pos2] X.env = (false, eval (.Call (.Name "range" p2) [a] [] pos2) X.env) :: starEach [] X.env := by rfl) : QF X W (.Call (.Name "list" p) [.Call (.Name "range" p2) [a] [] pos2] [] pos) (dRngL da) :=
  pe_imp (pe_listRg hc hg fr.list (prg_1 hg2 fr.range ha na) nb) fun σ H Q ⟨P, R, Xn, S, h, kq, kx⟩ =>
  ⟨P, _, Xn, S, h, fun v G1 H1 d e1 S1 r1 ⟨n, ed, hl, hR⟩ => (by
    subst ed
    cases r1
    refine ⟨_, rfl, RgOk.of_le (by omega) (by omega) (by omega) (by omega), fun p hp => ?_⟩
    have en : Gro G1.G H1 G1.G (upd H1 p (.lst (rgV 0 n))) := Gro.own hp
    refine kq p _ G1 _ _ (e1.trans en.any) (S1.pure en (same_own S1.w.s hp)) (e1.none_of hp) (S1.w.s.free hp) (S1.w.m_none hp) upd_same ?_ hR
    have e : rgV 0 n = ((List.range n).map fun i : Nat => (0 : Int) + i).map V.int := by
      unfold rgV
      simp
    have e2 : rngD 0 n = ((List.range n).map fun i : Nat => (0 : Int) + i).map PyData.int := by
      unfold rngD
      simp
    rw [e, e2]
    exact rps_ints _), kx⟩
end
section
variable {E : List En} {M : Mu} {R : PyData → Mu → Prop} {RF : List PyData → Mu → Prop} {Xn : Er → Mu → Prop} {de : DE} {d1 : DO}
@[simp] theorem dDiff_s : dDiff de E R Xn = de E (fun d M => asDiff d fun z => R z M) Xn := rfl
@[simp] theorem dBack_s : dBack de d1 E RF Xn = de E (fun d => d1 E (fun o M => asRev d o fun z => RF z M) Xn) Xn := rfl
@[simp] theorem dRngL_s : dRngL de E RF Xn = de E (fun d M => asRng d fun z => RF z M) Xn := rfl
@[simp] theorem asRev_s {ds : List PyData} {o : Option Int} {RF : List PyData → Prop} : asRev (.list ds) o RF = (o = some (-1) ∧ RF ds.reverse) := propext ⟨fun ⟨h, _, e, q⟩ => by cases e; exact ⟨h, q⟩, fun ⟨h, q⟩ => ⟨h, ds, rfl, q⟩⟩
end
/-! numbers that stand twice -/
theorem len_sub : ∀ {ks zs : List Int}, ks.Nodup → (∀ k ∈ ks, k ∈ zs) → ks.length ≤ zs.length
  | [], _, _, _ => Nat.zero_le _
  | k :: ks, zs, h, hm => by
    rw [List.nodup_cons] at h
    have hk := hm k (by simp)
    have := len_sub (zs := zs.erase k) h.2 fun x hx => by
      have ne : x ≠ k := fun e => h.1 (by rw [← e]; exact hx)
      exact (List.mem_erase_of_ne ne).mpr (hm x (by simp [hx]))
    rw [List.length_erase_of_mem hk] at this
    have := List.length_pos_of_mem hk
    rw [List.length_cons]
    omega
theorem dup_less : ∀ {zs : List Int}, ¬ zs.Nodup → ∃ ys : List Int, ys.length < zs.length ∧ ∀ x, x ∈ zs → x ∈ ys
  | [], h => absurd List.nodup_nil h
  | z :: zs, h => by
    by_cases hz : z ∈ zs
    · exact ⟨zs, by simp, fun x hx => by
        rcases List.mem_cons.mp hx with e | hx
        · rw [e]; exact hz
        · exact hx⟩
    · obtain ⟨ys, h1, h2⟩ := dup_less (zs := zs) fun hn => h (List.nodup_cons.mpr ⟨hz, hn⟩)
      exact ⟨z :: ys, by simp; omega, fun x hx => by
        rcases List.mem_cons.mp hx with e | hx
        · rw [e]; simp
        · simp [h2 x hx]⟩
theorem diff_nodup {ks zs : List Int} (h : ks.Nodup) (hm : ∀ k, k ∈ ks ↔ k ∈ zs) : ks.length = zs.length ↔ zs.Nodup := by
  constructor
  · intro e
    by_cases hn : zs.Nodup
    · exact hn
    · obtain ⟨ys, h1, h2⟩ := dup_less hn
      have := len_sub (zs := ys) h fun k hk => h2 k ((hm k).mp hk)
      omega
  · intro hn
    have h1 := len_sub h fun k hk => (hm k).mp hk
    have h2 := len_sub hn fun k hk => (hm k).mpr hk
    omega
@[simp] theorem asDiff_s {ns : List Int} {R : PyData → Prop} : asDiff (.tuple (ns.map .int)) R = (ns.length ≤ 4000 ∧ ∀ ks : List Int, ks.Nodup → (∀ k, k ∈ ks ↔ k ∈ ns) → R (.int (ks.length : Nat))) := by
  apply propext
  constructor
  · rintro ⟨ms, e, h⟩
    have e2 : ns.map PyData.int = ms.map PyData.int := by simpa using e
    have : ns = ms := by
      have := congrArg (List.map fun d => match d with | PyData.int i => i | _ => 0) e2
      simpa [Function.comp_def] using this
    rw [this]
    exact h
  · exact fun h => ⟨ns, rfl, h⟩
theorem any_int {i : Int} {xs : List Int} : ((xs.map PyData.int).any fun z => PyData.eqv z (.int i)) = decide (i ∈ xs) := by
  rw [List.any_map, Bool.eq_iff_iff, List.any_eq_true]
  simp only [Function.comp_apply, eqv_int, decide_eq_true_eq]
  constructor
  · rintro ⟨x, hx, e⟩
    have : x = i := by simpa using e
    rw [← this]; exact hx
  · exact fun hx => ⟨i, hx, by simp⟩
@[simp] theorem fIn_I {neg : Bool} {i : Int} {xs : List Int} {R : PyData → Prop} : fIn neg (.int i) (.list (xs.map .int)) R = R (.bool (neg != decide (i ∈ xs))) := by
  show (sh (.int i) ∧ sh (.list (xs.map PyData.int)) ∧ R (.bool (neg != (xs.map PyData.int).any fun z => PyData.eqv z (.int i)))) = _
  rw [any_int, sh_int, sh_ints]
  simp
@[simp] theorem fIn_IT {neg : Bool} {i : Int} {xs : List Int} {R : PyData → Prop} : fIn neg (.int i) (.tuple (xs.map .int)) R = R (.bool (neg != decide (i ∈ xs))) := by
  have h : (xs.map PyData.int).all flatD = true := by
    rw [List.all_map, List.all_eq_true]
    exact fun _ _ => rfl
  show (flatD (.int i) = true ∧ (xs.map PyData.int).all flatD = true ∧ R (.bool (neg != (xs.map PyData.int).any fun z => PyData.eqv z (.int i)))) = _
  rw [any_int, h]
  simp [flatD]
end Wx

namespace Wx
open PySem PySem.Spec PyProof.Rows L2
/-! ### the least of a list of numbers -/
theorem items_of : ∀ {ns : List Int} {us : List Value}, Vals (ns.map V.int) us → ∃ xs : List (Int × Tok), us = xs.map (fun p => Value.int p.1 p.2) ∧ xs.map (·.1) = ns
  | [], _, .nil => ⟨[], rfl, rfl⟩
  | m :: ms, _, .cons q w => by
    obtain ⟨j, hj⟩ := q
    obtain ⟨xs, e1, e2⟩ := items_of w
    exact ⟨(m, j) :: xs, by rw [hj, e1]; rfl, by rw [List.map_cons, e2]⟩
def rLeast (K : PySem.W.Frag) : List V → Hp → VK → Prop := fun vs H Q => ∃ (l : Addr) (ns : List Int), vs = [.ref l] ∧ SqL K H l (ns.map V.int) ∧ 0 < ns.length ∧ ∀ m, m ∈ ns → (∀ a ∈ ns, m ≤ a) → Q (.int m) H
theorem call_least {X : Cx} (hc : X.calm = true) : CallR X (.builtin "min") (rLeast X.K) := by
  intro pins s σ H vs us Q I r h
  obtain ⟨l, ns, rfl, hs, hne, q⟩ := h
  obtain ⟨its, rv, hl, _⟩ := I.list hs
  rw [Vals.ref1 r]
  obtain ⟨xs, e1, e2⟩ := items_of rv
  have ei : its.toArray = intItems xs.toArray := by
    rw [e1]
    simp [intItems]
  have hl2 := hl.isList
  rw [ei] at hl2
  have hlen : xs.length = ns.length := by rw [← e2]; simp
  have num : ∀ i (hi : i < xs.length), numAt xs.toArray i = ns[i]'(by omega) := fun i hi => by
    subst e2
    simp [numAt, hi]
  refine min_intList (I.ok.hd hc) hl2 (by simp; omega) fun v h' tk hv hk => ?_
  obtain ⟨t, ev⟩ := intItems_at hv
  obtain ⟨b1, b2⟩ := argBest_lt (numAt xs.toArray) (xs.toArray.size - 1)
  generalize argBest (fun i j => decide (numAt xs.toArray i < numAt xs.toArray j)) (xs.toArray.size - 1) = j at *
  have hj : j < xs.length := by simp at b1; omega
  refine ⟨.int (numAt xs.toArray j), H, I.kept hk, by rw [ev]; exact ⟨t, rfl⟩, q _ ?_ fun a ha => ?_⟩
  · rw [num j hj]
    exact List.getElem_mem _
  · obtain ⟨i, hi, e⟩ := List.getElem_of_mem ha
    have := b2 i (by simp; omega)
    rw [num i (by omega), e] at this
    exact this
def fLeast : FC := fun ds R => ∃ ns : List Int, ds = [.list (ns.map .int)] ∧ 0 < ns.length ∧ ∀ m, m ∈ ns → (∀ a ∈ ns, m ≤ a) → R (.int m)
theorem least_ok {K : PySem.W.Frag} : RCOk K (rLeast K) fLeast := fun G H vs ds R Q s rr ⟨ns, e, hn, hR⟩ k => by
  subst e
  cases rr with
  | cons r1 r0 =>
    cases r0
    cases r1 with
    | @lst a xs es h1 a1 =>
      have e := a1.ints
      subst e
      exact ⟨a, ns, rfl, SqL.of (s _ _ h1), hn, fun m h1 h2 => k _ G H _ Gro.refl s (.int _) (hR m h1 h2)⟩
theorem b_least {X : Cx} {W : WX} {pos p : Pos} {e : Expr} {da : DA} (fr : Fr X.mg) (hc : X.calm = true) (ha : QA X W [e] da) (hg : Gl X "min" := by rfl) (he : starEach [e] X.env = (false, eval e X.env) :: starEach [] X.env := by rfl) : QE X W (.Call (.Name "min" p) [e] [] pos) (dCB fLeast da) := q_callB (call_least hc) least_ok fr.min ha hg bv_min (by decide) (by decide) he rfl
end Wx

namespace Wx
open PySem PySem.Spec PyProof.Rows L2

/-! ### a cell as a value; a cell's content as data -/
def obD : Ob → PyData
  | .lst ds => .list ds
  | .dct _ kvs => dctD kvs
  | .ins C fs => insD C fs
/-- the content of a cell, if the value is one -/
def celM (M : Mu) : PyData → Option Ob
  | .dict [(.bool true, .int (.ofNat a))] => M a
  | _ => none
@[simp] theorem celM_c {M : Mu} {a : Addr} : celM M (cellD a) = M a := rfl
@[simp] theorem celM_n {M : Mu} : celM M .none = none := rfl
@[simp] theorem celM_b {M : Mu} {x : Bool} : celM M (.bool x) = none := rfl
@[simp] theorem celM_i {M : Mu} {x : Int} : celM M (.int x) = none := rfl
@[simp] theorem celM_s {M : Mu} {x : Str} : celM M (.str x) = none := rfl
@[simp] theorem celM_l {M : Mu} {x : List PyData} : celM M (.list x) = none := rfl
@[simp] theorem celM_t {M : Mu} {x : List PyData} : celM M (.tuple x) = none := rfl
@[simp] theorem celM_d {M : Mu} {x : List (Key × PyData)} : celM M (dctD x) = none := by
  unfold dctD
  cases x with
  | nil => rfl
  | cons p r =>
    obtain ⟨k, v⟩ := p
    cases k <;> rfl
@[simp] theorem celM_o {M : Mu} {C : Str} {x : List (Str × PyData)} : celM M (insD C x) = none := rfl
theorem celM_some {M : Mu} {x : PyData} {ob : Ob} (h : celM M x = some ob) : ∃ a, x = cellD a ∧ M a = some ob := by
  unfold celM at h
  split at h
  · exact ⟨_, rfl, h⟩
  · cases h
theorem cutH_no {G : Hp} {p : Addr} (h : G p = none) : cutH (upd G p o) p = G := by
  funext a
  by_cases e : a = p
  · rw [e, cutH_same, h]
  · rw [cutH_ne e, upd_ne e]

/-! ### made, frozen -/
theorem Ext.newCell {bx : Option Bx} {G G1 : Gm} {H H1 : Hp} (e : Ext bx G H G1 H1) {p : Addr} {ob : Ob} (hp : H p = none) : Ext bx G H ⟨G1.G, G1.M.set p ob⟩ H1 := ⟨e.g, e.h, e.n, e.al, fun a ob2 q => by
  by_cases h : a = p
  · exact .inr (by rw [h]; exact hp)
  · have q : G1.M.set p ob a = some ob2 := q
    rw [Mu.set_ne h] at q; exact e.m a ob2 q⟩
/-- a new list as a cell -/
def dCel (df : DF) : DE := fun E R Xn => df E (fun ds M => ∀ a, M a = none → R (cellD a) (M.set a (.lst ds))) Xn
/-- {} as a cell -/
def dNewD : DE := fun E R Xn M => ∀ a, M a = none → R (cellD a) (M.set a (.dct none []))
/-- a cell frozen -/
def dFzC (de : DE) : DE := fun E R Xn => de E (fun d M => ∃ a ob, d = cellD a ∧ M a = some ob ∧ R (obD ob) (M.del a)) Xn
def dFrzC (i : Nat) (ds : DS) : DS := fun R E M => ∃ a ob, E[i]? = some (.dat (cellD a)) ∧ M a = some ob ∧ ds R (E.set i (.dat (obD ob))) (M.del a)
section
variable {X : Cx} {W : WX} {pos : Pos} {e : Expr} {sts : List Stmt} {de : DE} {df : DF} {ds : DS}
theorem q_cel (h : QF X W e df) : QE X W e (dCel df) := pe_imp h fun σ H Q ⟨P, R, Xn, S, h, k, kx⟩ =>
  ⟨P, _, Xn, S, h, fun p xs G1 H1 ds e1 S1 hp gp mp hx rr hR =>
    k (.ref p) ⟨G1.G, G1.M.set p (.lst ds)⟩ H1 (cellD p) (e1.newCell hp) (S1.newCell (S.x.none_of hp) gp mp (S.w.off hp) hx ⟨xs, hx, rr⟩ fun j es q hσ => S.no_own hp j es q hσ) .of_cel (hR p mp), kx⟩
theorem q_dnew : QE X W (.Dict [] [] pos) dNewD := pe_imp pe_dnewK fun σ H Q ⟨P, R, Xn, S, h, k, kx⟩ p hp => by
  have en : Gro P.G.G H P.G.G (upd H p (.dK [])) := Gro.own hp
  have S1 := S.pure en (same_own S.w.s hp)
  exact k (.ref p) ⟨P.G.G, P.G.M.set p (.dct none [])⟩ _ (cellD p) (Ext.newCell (G1 := ⟨P.G.G, P.G.M⟩) en.any hp) (S1.newCell (S.x.none_of hp) (S.w.s.free hp) (S.w.m_none hp) (S.w.off hp) upd_same ⟨[], upd_same, .nil⟩ fun j es q hσ => S.no_own hp j es q hσ) .of_cel (h p (S.w.m_none hp))
theorem pe_flock {t : TE} (h : PE X e t) : PE X e (fun σ H Q => t σ H fun v H1 => Q v H1 ∨ ∃ d u, H1 d = some u ∧ Mut (some u) ∧ ∀ od, Q v (upd H1 d (.frz od u))) :=
  ⟨fun pins s σ H Q I q => thn (h.run pins s σ H _ I q) fun u s1 ⟨v, H1, I1, rv, q1⟩ => by
    rcases q1 with q1 | ⟨d, w, hd, mu, q1⟩
    · exact ⟨v, H1, I1, rv, q1⟩
    · obtain ⟨od, I2⟩ := I1.lock hd mu
      exact ⟨v, _, I2, rv, q1 od⟩⟩
theorem pss_flock {t : TS} (h : PSs X sts t) : PSs X sts (fun D σ H => t D σ H ∨ ∃ d u, H d = some u ∧ Mut (some u) ∧ ∀ od, t D σ (upd H d (.frz od u))) :=
  ⟨fun pins s σ H D I q => by
    rcases q with q | ⟨d, w, hd, mu, q⟩
    · exact h.run pins s σ H D I q
    · obtain ⟨od, I2⟩ := I.lock hd mu
      exact h.run pins s σ _ D I2 (q od)⟩
/-- a cell frozen, the dict locked for good -/
theorem SR.freezeC {K : PySem.W.Frag} {bx : Option Bx} {G0 G : Gm} {H0 H : Hp} {σ : L2.St} {E : List En} (s : SR K bx G0 H0 G H σ E) {a : Addr} {ob : Ob} (hm : G.M a = some ob) :
    (∃ G', Ext bx G H ⟨G', G.M.del a⟩ H ∧ SR K bx G0 H0 ⟨G', G.M.del a⟩ H σ E ∧ Rp K G' (.ref a) (obD ob)) ∨
    ∃ u, H a = some u ∧ Mut (some u) ∧ ∀ od, ∃ G', Ext bx G H ⟨G', G.M.del a⟩ (upd H a (.frz od u)) ∧ SR K bx G0 H0 ⟨G', G.M.del a⟩ (upd H a (.frz od u)) σ E ∧ Rp K G' (.ref a) (obD ob) := by
  obtain ⟨c1, c2, c3⟩ := s.w.c a ob hm
  match ob, c1, hm with
  | .lst ds, ⟨xs, h1, h2⟩, hm =>
    obtain ⟨e, s', gg⟩ := s.frzCell hm h1
    exact .inl ⟨_, e, s', .lst upd_same (h2.up gg)⟩
  | .ins C fs, ⟨dx, vs, h1, h2⟩, hm =>
    obtain ⟨e, s', gg⟩ := s.frzCell hm h1
    exact .inl ⟨_, e, s', .of_ins upd_same (h2.up gg)⟩
  | .dct (some t) kvs, ⟨h1, h2⟩, hm =>
    obtain ⟨e, s', gg⟩ := s.frzCell hm h1
    exact .inl ⟨_, e, s', .of_dct upd_same (h2.up gg)⟩
  | .dct none kvs, ⟨ks, h1, h2⟩, hm =>
    refine .inr ⟨_, h1, trivial, fun od => ?_⟩
    obtain ⟨e1, w1⟩ := Ext.cell (o := .frz od (.dK ks)) (ob' := .dct (some (od, ks)) kvs) s.w hm ⟨upd_same, h2⟩
    have s1 := s.ext e1 w1
    obtain ⟨e2, s2, gg⟩ := s1.frzCell (a := a) (ob := .dct (some (od, ks)) kvs) (o := .frz od (.dK ks)) Mu.set_same upd_same
    have em : (G.M.set a (.dct (some (od, ks)) kvs)).del a = G.M.del a := by
      funext b
      by_cases h : b = a
      · rw [h, Mu.del_same, Mu.del_same]
      · rw [Mu.del_ne h, Mu.del_ne h, Mu.set_ne h]
    rw [show (⟨G.G, G.M.set a (.dct (some (od, ks)) kvs)⟩ : Gm).M.del a = G.M.del a from em] at e2 s2
    exact ⟨_, e1.trans e2, s2, .of_dct upd_same (h2.up gg)⟩
theorem q_fzc (h : QE X W e de) : QE X W e (dFzC de) := pe_imp (pe_flock h) fun σ H Q ⟨P, R, Xn, S, h, k, kx⟩ =>
  ⟨P, _, Xn, S, h, fun v G1 H1 d e1 S1 r1 ⟨a, ob, ed, hm, hR⟩ => by
    subst ed
    have ev := r1.cell_inv
    subst ev
    rcases S1.freezeC hm with ⟨G', e2, S2, r2⟩ | ⟨u, hu, mu, q⟩
    · exact .inl (k _ _ H1 _ (e1.trans e2) S2 r2 hR)
    · refine .inr ⟨a, u, hu, mu, fun od => ?_⟩
      obtain ⟨G', e2, S2, r2⟩ := q od
      exact k _ _ _ _ (e1.trans e2) S2 r2 hR, kx⟩
theorem ss_frzC (i : Nat) (h : QSs X W sts ds) : QSs X W sts (dFrzC i ds) := pss_imp (pss_flock h) fun D σ H ⟨P, R, S, ⟨a, ob, he, hm, h⟩, L⟩ => by
  obtain ⟨v, hσ, rv⟩ := S.dat he
  have ev := rv.cell_inv
  subst ev
  have setE : ∀ {G' : Hp} {H' : Hp}, SR X.K P.bx P.G0 P.H0 ⟨G', P.G.M.del a⟩ H' σ P.E → Rp X.K G' (.ref a) (obD ob) → SR X.K P.bx P.G0 P.H0 ⟨G', P.G.M.del a⟩ H' σ (P.E.set i (.dat (obD ob))) := fun {G' H'} s r => by
    have := s.setDat (i := i) r
    have eσ : σ.set i (some (.ref a)) = σ := by
      have hl := (List.getElem?_eq_some_iff.mp hσ).1
      apply List.ext_getElem?
      intro j
      by_cases hj : i = j
      · subst hj
        rw [List.getElem?_set_self hl, hσ]
      · rw [List.getElem?_set_ne hj]
    rw [eσ] at this
    exact this
  rcases S.freezeC hm with ⟨G', e2, S2, r2⟩ | ⟨u, hu, mu, q⟩
  · exact .inl ⟨⟨P.bx, P.G0, P.H0, ⟨G', P.G.M.del a⟩, P.E.set i (.dat (obD ob))⟩, R, setE S2 r2, h, L⟩
  · refine .inr ⟨a, u, hu, mu, fun od => ?_⟩
    obtain ⟨G', e2, S2, r2⟩ := q od
    exact ⟨⟨P.bx, P.G0, P.H0, ⟨G', P.G.M.del a⟩, P.E.set i (.dat (obD ob))⟩, R, setE S2 r2, h, L⟩
end
end Wx

namespace Wx
open PySem PySem.Spec PyProof.Rows L2

/-! ### what is read of values, cells among them -/
def lookK (kvs : List (Key × PyData)) (k : Key) : Option PyData := (kvs.find? fun p => decide (p.1 = k)).map (·.2)
theorem rp_key {K : PySem.W.Frag} {G : Hp} {w : V} {k : Key} (r : Rp K G w (kD k)) : w = kV k := by
  cases k <;> cases r <;> rfl
def fKey (kvs : List (Key × PyData)) (y : PyData) (R : PyData → Prop) : Prop := ∃ k v, y = kD k ∧ lookK kvs k = some v ∧ R v
def gIx (M : Mu) : F2 := fun x y R => match celM M x with
  | some (.lst ds) => ∃ i z, y = .int i ∧ ds.length ≤ sizeLine ∧ atI ds i = some z ∧ R z
  | some (.dct _ kvs) => fKey kvs y R
  | some (.ins _ _) => False
  | none => fIx x y R ∨ ∃ kvs, x = dctD kvs ∧ fKey kvs y R
def hasK (neg : Bool) (kvs : List (Key × PyData)) (x : PyData) (R : PyData → Prop) : Prop := ∃ k, x = kD k ∧ R (.bool (neg != (lookK kvs k).isSome))
def gIn (neg : Bool) (M : Mu) : F2 := fun x y R => match celM M y with
  | some (.lst ds) => sh x ∧ sh (.list ds) ∧ R (.bool (neg != ds.any fun z => PyData.eqv z x))
  | some (.dct _ kvs) => hasK neg kvs x R
  | some (.ins _ _) => False
  | none => fIn neg x y R ∨ ∃ kvs, y = dctD kvs ∧ hasK neg kvs x R
/-- a cell's list as a list -/
def resL (M : Mu) (x : PyData) : PyData := match celM M x with
  | some (.lst ds) => .list ds
  | _ => x
def gEq (M : Mu) : F2 := fun x y R => fEq (resL M x) (resL M y) R
def gNe (M : Mu) : F2 := fun x y R => fNe (resL M x) (resL M y) R
def dOpG (g : Mu → F2) (da db : DE) : DE := fun E R Xn => da E (fun x => db E (fun y M => g M x y fun z => R z M) Xn) Xn
def R2OkM (K : PySem.W.Frag) (r : R2) (g : Mu → F2) : Prop := ∀ (bx : Option Bx) (G : Gm) (H : Hp) (v w : V) (x y : PyData) (R : PyData → Prop) (Q : VK), Wo K bx G H → Rp K G v x → Rp K G w y → g G.M x y R →
  (∀ u G' H' d, Gro G.G H G' H' → Same G' H' → Rp K G' u d → R d → Q u H') → r v w H Q
theorem R2Ok.m {K : PySem.W.Frag} {r : R2} {f : F2} (h : R2Ok K r f) : R2OkM K r (fun _ => f) := fun bx G H v w x y R Q wo r1 r2 hf k => h G.G H v w x y R Q wo.s r1 r2 hf k
/-- .. by values: there, in a dict -/
def rDG : R2 := fun x y H Q => ∃ a v, x = .ref a ∧ DGet H a y (some v) ∧ Q v H
theorem ix_dct {X : Cx} (hu : X.A.units + 1 < cLine) : IxR X rDG := by
  intro value slice pins s σ H x y v u Q I rx ry h hs
  obtain ⟨a, z, rfl, g, q⟩ := h
  obtain rfl : v = Value.ref a := rx
  exact tail_any (dict_typeIs I g) PySem.F.slot_dict_getitem.lookup (d_getItem hu I g ry fun w' s' I' rw => ⟨z, H, I', rw, q⟩) hs
theorem ixM_ok {K : PySem.W.Frag} : R2OkM K (fun x y H Q => rIx K x y H Q ∨ rDG x y H Q) gIx := fun bx G H v w x y R Q wo r1 r2 h k => by
  have key : ∀ (a : Addr) (ks : List (Key × V)) (kvs : List (Key × PyData)), Rd H a (.dK ks) → RpK K G ks kvs → fKey kvs y R → rDG (.ref a) w H Q := fun a ks kvs hr rk ⟨kk, vd, ey, hl, hR⟩ => by
    subst ey
    obtain ⟨u, hu, ru⟩ := rk.val hl
    exact ⟨a, u, rfl, .inl ⟨ks, kk, hr, rp_key r2, hu.symm⟩, k u G.G H vd Gro.refl wo.s ru hR⟩
  unfold gIx at h
  split at h
  · rename_i ds hc
    obtain ⟨a, ex, hm⟩ := celM_some hc
    subst ex
    obtain ⟨i, z, ey, hl, hi, hR⟩ := h
    subst ey
    cases r2
    have ev := r1.cell_inv
    subst ev
    obtain ⟨⟨xs, h1, h2⟩, _, _⟩ := wo.c a _ hm
    obtain ⟨u, hu, ru⟩ := atI_rp h2 hi
    exact .inl (.inl ⟨a, xs, i, u, rfl, rfl, SqL.of h1, hu, k u G.G H z Gro.refl wo.s ru hR⟩)
  · rename_i l kvs hc
    obtain ⟨a, ex, hm⟩ := celM_some hc
    subst ex
    have ev := r1.cell_inv
    subst ev
    obtain ⟨c1, _, _⟩ := wo.c a _ hm
    refine .inr ?_
    cases l with
    | none => obtain ⟨ks, h1, h2⟩ := c1; exact key a ks kvs (.inl h1) h2 h
    | some t => obtain ⟨h1, h2⟩ := c1; exact key a t.2 kvs (.inr ⟨t.1, h1⟩) h2 h
  · exact h.elim
  · rcases h with h | ⟨kvs, ex, h⟩
    · exact .inl (ix_ok G.G H v w x y R Q wo.s r1 r2 h k)
    · subst ex
      obtain ⟨a, o, ks, ev, h1, h2⟩ := r1.dct_inv
      subst ev
      exact .inr (key a ks kvs (.inr ⟨o, wo.s _ _ h1⟩) h2 h)
def rDIn : R2 := fun y x H Q => ∃ a o, x = .ref a ∧ DGet H a y o ∧ Q (.bl o.isSome) H
def rDNotIn : R2 := fun y x H Q => ∃ a o, x = .ref a ∧ DGet H a y o ∧ Q (.bl (!o.isSome)) H
theorem op_dIn {X : Cx} (hu : X.A.units + 1 < cLine) : OpR X (compareOp .In) rDIn := by
  intro pins s σ H x y v u Q I rx ry h
  obtain ⟨a, o, rfl, g, q⟩ := h
  cases ry
  exact d_in hu I g rx fun s' I' => ⟨.bl o.isSome, H, I', rfl, q⟩
theorem op_dNotIn {X : Cx} (hu : X.A.units + 1 < cLine) : OpR X (compareOp .NotIn) rDNotIn := by
  intro pins s σ H x y v u Q I rx ry h
  obtain ⟨a, o, rfl, g, q⟩ := h
  cases ry
  exact d_notIn hu I g rx fun s' I' => ⟨.bl (!o.isSome), H, I', rfl, q⟩
theorem lookK_val {K : PySem.W.Frag} {G : Hp} {ks : List (Key × V)} {kvs : List (Key × PyData)} (r : RpK K G ks kvs) (k : Key) : (valV ks k).isSome = (lookK kvs k).isSome := by
  cases h : lookK kvs k with
  | some d =>
    obtain ⟨v, h1, _⟩ := r.val (show (kvs.find? fun p => decide (p.1 = k)).map (·.2) = some d from h)
    rw [h1]; rfl
  | none =>
    cases q : valV ks k with
    | none => rfl
    | some v =>
      exfalso
      have m1 := valV_in q
      rw [r.keys] at m1
      unfold lookK at h
      rw [Option.map_eq_none_iff, List.find?_eq_none] at h
      obtain ⟨p, hp, e⟩ := List.mem_map.mp m1
      exact h p hp (by simpa using e)
/-- a flat answer while cells' lists lie frozen -/
theorem op_cells {K : PySem.W.Frag} {r : R2} {f : F2} (hs : R2Ok K r f) {bx : Option Bx} {G : Gm} {H : Hp} (wo : Wo K bx G H) {v w : V} {x y : PyData} {R : PyData → Prop} {Q : VK} (r1 : Rp K G v x) (r2 : Rp K G w y)
    (h : f (resL G.M x) (resL G.M y) fun z => flatD z = true ∧ R z) (k : ∀ u G' H' d, Gro G.G H G' H' → Same G' H' → Rp K G' u d → R d → Q u H') : r v w H Q := by
  let Gp : Hp := fun a => match G.M a with
    | some (.lst _) => H a
    | _ => G.G a
  have gg : Same G.G Gp := fun a o q => by
    show (match G.M a with | some (.lst _) => H a | _ => G.G a) = some o
    split
    · exact wo.s a o q
    · exact q
  have sp : Same Gp H := fun a o q => by
    have q : (match G.M a with | some (.lst _) => H a | _ => G.G a) = some o := q
    split at q
    · exact q
    · exact wo.s a o q
  have up : ∀ {v : V} {x : PyData}, Rp K G v x → Rp K Gp v (resL G.M x) := fun {v x} r => by
    unfold resL
    split
    · rename_i ds hc
      obtain ⟨a, ex, hm⟩ := celM_some hc
      subst ex
      have ev := r.cell_inv
      subst ev
      obtain ⟨⟨xs, h1, h2⟩, _, _⟩ := wo.c a _ hm
      refine .lst ?_ (h2.up gg)
      show (match G.M a with | some (.lst _) => H a | _ => G.G a) = _
      rw [hm]; exact h1
    · exact r.up gg
  refine hs Gp H v w _ _ _ Q sp (up r1) (up r2) h fun u G' H' d e s r ⟨fl, hR⟩ => ?_
  refine k u G.G H' d ⟨Same.refl _, e.s, fun _ _ q => .inl q⟩ (wo.s.trans e.s) ?_ hR
  cases r with
  | non => exact .non
  | bl b => exact .bl b
  | int i => exact .int i
  | str z => exact .str z
  | _ => cases fl
theorem eqM_ok {K : PySem.W.Frag} : R2OkM K (rEqD K) gEq := fun bx G H v w x y R Q wo r1 r2 ⟨a, b, hR⟩ k => op_cells eq_ok wo r1 r2 ⟨a, b, rfl, hR⟩ k
theorem neM_ok {K : PySem.W.Frag} : R2OkM K (rNeD K) gNe := fun bx G H v w x y R Q wo r1 r2 ⟨a, b, hR⟩ k => op_cells ne_ok wo r1 r2 ⟨a, b, rfl, hR⟩ k
theorem inM_ok {K : PySem.W.Frag} (neg : Bool) : R2OkM K (fun x y H Q => (if neg then rNotInA K x y H Q else rInA K x y H Q) ∨ (if neg then rDNotIn x y H Q else rDIn x y H Q)) (gIn neg) := fun bx G H v w x y R Q wo r1 r2 h k => by
  have key : ∀ (a : Addr) (ks : List (Key × V)) (kvs : List (Key × PyData)), Rd H a (.dK ks) → RpK K G ks kvs → hasK neg kvs x R → (if neg then rDNotIn v (.ref a) H Q else rDIn v (.ref a) H Q) := fun a ks kvs hr rk ⟨kk, ex, hR⟩ => by
    subst ex
    have ev := rp_key r1
    subst ev
    have el := lookK_val rk kk
    cases neg with
    | false => exact ⟨a, valV ks kk, rfl, .inl ⟨ks, kk, hr, rfl, rfl⟩, k _ G.G H _ Gro.refl wo.s (.bl _) (by rw [el]; simpa using hR)⟩
    | true => exact ⟨a, valV ks kk, rfl, .inl ⟨ks, kk, hr, rfl, rfl⟩, k _ G.G H _ Gro.refl wo.s (.bl _) (by rw [el]; simpa using hR)⟩
  unfold gIn at h
  split at h
  · rename_i ds hc
    obtain ⟨a, ey, hm⟩ := celM_some hc
    refine .inl ?_
    have hx : sh x := h.1
    have ex : resL G.M x = x := by
      unfold resL
      split
      · rename_i ds2 hc2
        obtain ⟨b, eb, _⟩ := celM_some hc2
        subst eb
        have hx : SeqAt.shaped (cellD b) = true := hx
        have := SeqAt.canLay_of_shaped hx
        unfold cellD at this
        rw [PyData.canLay0] at this
        cases this
      · rfl
    have ey2 : resL G.M y = .list ds := by
      unfold resL
      rw [hc]
    have hq : fIn neg (resL G.M x) (resL G.M y) fun z => flatD z = true ∧ R z := by
      rw [ex, ey2]
      exact ⟨h.1, h.2.1, rfl, h.2.2⟩
    cases neg with
    | false => exact op_cells in_ok wo r1 r2 hq k
    | true => exact op_cells notIn_ok wo r1 r2 hq k
  · rename_i l kvs hc
    obtain ⟨a, ey, hm⟩ := celM_some hc
    subst ey
    have ev := r2.cell_inv
    subst ev
    obtain ⟨c1, _, _⟩ := wo.c a _ hm
    refine .inr ?_
    cases l with
    | none => obtain ⟨ks, h1, h2⟩ := c1; exact key a ks kvs (.inl h1) h2 h
    | some t => obtain ⟨h1, h2⟩ := c1; exact key a t.2 kvs (.inr ⟨t.1, h1⟩) h2 h
  · exact h.elim
  · rcases h with h | ⟨kvs, ey, h⟩
    · refine .inl ?_
      cases neg with
      | false => exact in_ok G.G H v w x y R Q wo.s r1 r2 h k
      | true => exact notIn_ok G.G H v w x y R Q wo.s r1 r2 h k
    · subst ey
      obtain ⟨a, o, ks, ev, h1, h2⟩ := r2.dct_inv
      subst ev
      exact .inr (key a ks kvs (.inr ⟨o, wo.s _ _ h1⟩) h2 h)
section
variable {X : Cx} {W : WX} {pos : Pos} {a b c : Expr} {da db dc : DE}
theorem lift_opG {K : PySem.W.Frag} {r : R2} {g : Mu → F2} (hs : R2OkM K r g) {σ : L2.St} {H : Hp} {Q : VK} (h : liftE K W (dOpG g da db) σ H Q) : tOp r (liftE K W da) (liftE K W db) σ H Q := by
  obtain ⟨P, R, Xn, S, h, k, kx⟩ := h
  refine ⟨P, _, Xn, S, h, fun v G1 H1 d e1 S1 r1 h1 => ?_, kx⟩
  refine ⟨P.go G1, _, Xn, S1, h1, fun w G2 H2 y e2 S2 r2 h2 => ?_, kx⟩
  refine hs P.bx G2 H2 v w d y (fun z => R z G2.M) Q S2.w (r1.up e2.g) r2 h2 fun u G' H' z e3 s3 r3 h3 => ?_
  exact k u ⟨G', G2.M⟩ H' z (e1.trans (e2.trans e3.any)) (S2.pure e3 s3) r3 h3
theorem q_ixG (hu : X.A.units + 65 < cLine) (ha : QE X W a da) (hb : QE X W b db) (hs : PlainIx b := by exact fun _ _ => rfl) : QE X W (.Subscript a b pos) (dOpG gIx da db) :=
  pe_imp (pe_ix (IxR.or ix_seq (ix_dct (by omega))) ha hb hs) fun _ _ _ => lift_opG ixM_ok
structure CmpOkM (X : Cx) (op : CmpOp) (g : Mu → F2) : Prop where
  ok : ∃ r, OpR X (compareOp op) r ∧ R2OkM X.K r g
theorem m_eq (hu : X.A.units + 65 < cLine) : CmpOkM X .Eq gEq := ⟨_, op_eqD (by omega), eqM_ok⟩
theorem m_ne (hu : X.A.units + 65 < cLine) : CmpOkM X .NotEq gNe := ⟨_, op_neD (by omega), neM_ok⟩
theorem m_in (hu : X.A.units + 65 < cLine) : CmpOkM X .In (gIn false) := ⟨_, OpR.or (op_inA hu) (op_dIn (by omega)), fun bx G H v w x y R Q wo r1 r2 h k => by
  have := inM_ok (K := X.K) false bx G H v w x y R Q wo r1 r2 h k
  simpa using this⟩
theorem m_notIn (hu : X.A.units + 65 < cLine) : CmpOkM X .NotIn (gIn true) := ⟨_, OpR.or (op_notInA hu) (op_dNotIn (by omega)), fun bx G H v w x y R Q wo r1 r2 h k => by
  have := inM_ok (K := X.K) true bx G H v w x y R Q wo r1 r2 h k
  simpa using this⟩
theorem q_c1G {op : CmpOp} {g : Mu → F2} (h : CmpOkM X op g) (ha : QE X W a da) (hb : QE X W b db) (hm : behindInMarks op b = false := by first | exact nomark _ | rfl) : QE X W (.Compare a [op] [b] pos) (dOpG g da db) := by
  obtain ⟨r, ho, hs⟩ := h.ok
  exact pe_imp (pe_cmpR ho ha hb hm) fun _ _ _ => lift_opG hs
theorem t_c1G {op : CmpOp} {g : Mu → F2} (h : CmpOkM X op g) (ha : QE X W a da) (hb : QE X W b db) (hm : behindInMarks op b = false := by first | exact nomark _ | rfl) : QT X W (.Compare a [op] [b] pos) (dTB (dOpG g da db)) := by
  obtain ⟨r, ho, hs⟩ := h.ok
  refine pt_imp (pt_cmpR ho ha hb hm) fun σ H Q h => ?_
  obtain ⟨P, R, Xn, S, h, k, kx⟩ := h
  exact lift_opG (W := W) hs ⟨P, _, Xn, S, h, fun v G1 H1 d e1 S1 r1 ⟨b, eb, h2⟩ => by
    subst eb
    cases r1
    exact ⟨b, rfl, k b G1 H1 e1 S1 h2⟩, kx⟩
end
/-! their simp forms -/
section
variable {M : Mu} {x y : PyData} {R : PyData → Prop} {ds : List PyData} {kvs : List (Key × PyData)} {a : Addr} {neg : Bool} {l : Option (Obj × List (Key × V))}
@[simp] theorem dOpG_s {g : Mu → F2} {da db : DE} {E : List En} {R : PyData → Mu → Prop} {Xn : Er → Mu → Prop} : dOpG g da db E R Xn = da E (fun x => db E (fun y M => g M x y fun z => R z M) Xn) Xn := rfl
theorem fIx_d : fIx (dctD kvs) y R = False := by
  apply propext
  exact ⟨fun ⟨i, z, _, _, h, _⟩ => (by unfold dctD at h; cases h), False.elim⟩
@[simp] theorem fKey_i {i : Int} : fKey kvs (.int i) R = ∃ v, lookK kvs (.inl i) = some v ∧ R v := by
  apply propext
  constructor
  · rintro ⟨k, v, e, h⟩
    cases k with
    | inl j => cases e; exact ⟨v, h⟩
    | inr z => cases e
  · rintro ⟨v, h⟩
    exact ⟨.inl i, v, rfl, h⟩
@[simp] theorem fKey_s {i : Str} : fKey kvs (.str i) R = ∃ v, lookK kvs (.inr i) = some v ∧ R v := by
  apply propext
  constructor
  · rintro ⟨k, v, e, h⟩
    cases k with
    | inr j => cases e; exact ⟨v, h⟩
    | inl z => cases e
  · rintro ⟨v, h⟩
    exact ⟨.inr i, v, rfl, h⟩
@[simp] theorem hasK_i {i : Int} : hasK neg kvs (.int i) R = R (.bool (neg != (lookK kvs (.inl i)).isSome)) := by
  apply propext
  constructor
  · rintro ⟨k, e, h⟩
    cases k with
    | inl j => cases e; exact h
    | inr z => cases e
  · exact fun h => ⟨.inl i, rfl, h⟩
@[simp] theorem hasK_s {i : Str} : hasK neg kvs (.str i) R = R (.bool (neg != (lookK kvs (.inr i)).isSome)) := by
  apply propext
  constructor
  · rintro ⟨k, e, h⟩
    cases k with
    | inr j => cases e; exact h
    | inl z => cases e
  · exact fun h => ⟨.inr i, rfl, h⟩
@[simp] theorem gIx_l : gIx M (.list ds) y R = fIx (.list ds) y R := by
  apply propext
  exact ⟨fun h => h.resolve_right fun ⟨_, e, _⟩ => (by cases e), .inl⟩
@[simp] theorem gIx_t : gIx M (.tuple ds) y R = fIx (.tuple ds) y R := by
  apply propext
  exact ⟨fun h => h.resolve_right fun ⟨_, e, _⟩ => (by cases e), .inl⟩
@[simp] theorem gIx_s {z : Str} : gIx M (.str z) y R = fIx (.str z) y R := by
  apply propext
  exact ⟨fun h => h.resolve_right fun ⟨_, e, _⟩ => (by cases e), .inl⟩
@[simp] theorem gIx_d : gIx M (dctD kvs) y R = fKey kvs y R := by
  unfold gIx
  rw [celM_d]
  apply propext
  constructor
  · rintro (h | ⟨k2, e, h⟩)
    · rw [fIx_d] at h; exact h.elim
    · rw [dctD_inj e]; exact h
  · exact fun h => .inr ⟨kvs, rfl, h⟩
def gIxC (o : Option Ob) (y : PyData) (R : PyData → Prop) : Prop := match o with
  | some (.lst ds) => ∃ i z, y = .int i ∧ ds.length ≤ sizeLine ∧ atI ds i = some z ∧ R z
  | some (.dct _ kvs) => fKey kvs y R
  | _ => False
@[simp] theorem gIx_c : gIx M (cellD a) y R = gIxC (M a) y R := by
  unfold gIx gIxC
  rw [celM_c]
  cases h : M a with
  | some ob => cases ob <;> rfl
  | none =>
    apply propext
    constructor
    · rintro (⟨i, z, _, _, h, _⟩ | ⟨k2, e, h⟩)
      · cases h
      · exact cell_dct e
    · exact False.elim
@[simp] theorem gIxC_l {i : Int} : gIxC (some (.lst ds)) (.int i) R = (ds.length ≤ sizeLine ∧ ∃ z, atI ds i = some z ∧ R z) := by
  apply propext
  exact ⟨fun ⟨_, z, e, h1, h2, h3⟩ => by cases e; exact ⟨h1, z, h2, h3⟩, fun ⟨h1, z, h2, h3⟩ => ⟨i, z, rfl, h1, h2, h3⟩⟩
@[simp] theorem gIxC_d : gIxC (some (.dct l kvs)) y R = fKey kvs y R := rfl
@[simp] theorem gIn_l : gIn neg M x (.list ds) R = fIn neg x (.list ds) R := by
  apply propext
  exact ⟨fun h => h.resolve_right fun ⟨_, e, _⟩ => (by cases e), .inl⟩
@[simp] theorem gIn_t : gIn neg M x (.tuple ds) R = fIn neg x (.tuple ds) R := by
  apply propext
  exact ⟨fun h => h.resolve_right fun ⟨_, e, _⟩ => (by cases e), .inl⟩
@[simp] theorem gIn_s {z : Str} : gIn neg M x (.str z) R = fIn neg x (.str z) R := by
  apply propext
  exact ⟨fun h => h.resolve_right fun ⟨_, e, _⟩ => (by cases e), .inl⟩
@[simp] theorem gIn_d : gIn neg M x (dctD kvs) R = hasK neg kvs x R := by
  unfold gIn
  rw [celM_d]
  apply propext
  constructor
  · rintro (h | ⟨k2, e, h⟩)
    · unfold dctD at h; exact h.elim
    · rw [dctD_inj e]; exact h
  · exact fun h => .inr ⟨kvs, rfl, h⟩
def gInC (neg : Bool) (o : Option Ob) (x : PyData) (R : PyData → Prop) : Prop := match o with
  | some (.lst ds) => sh x ∧ sh (.list ds) ∧ R (.bool (neg != ds.any fun z => PyData.eqv z x))
  | some (.dct _ kvs) => hasK neg kvs x R
  | _ => False
@[simp] theorem gIn_c : gIn neg M x (cellD a) R = gInC neg (M a) x R := by
  unfold gIn gInC
  rw [celM_c]
  cases h : M a with
  | some ob => cases ob <;> rfl
  | none =>
    apply propext
    constructor
    · rintro (h | ⟨k2, e, h⟩)
      · exact h.elim
      · exact cell_dct e
    · exact False.elim
@[simp] theorem gInC_l : gInC neg (some (.lst ds)) x R = fIn neg x (.list ds) R := rfl
@[simp] theorem gInC_d : gInC neg (some (.dct l kvs)) x R = hasK neg kvs x R := rfl
@[simp] theorem resL_n : resL M .none = .none := rfl
@[simp] theorem resL_b {b : Bool} : resL M (.bool b) = .bool b := rfl
@[simp] theorem resL_i {i : Int} : resL M (.int i) = .int i := rfl
@[simp] theorem resL_s {z : Str} : resL M (.str z) = .str z := rfl
@[simp] theorem resL_l : resL M (.list ds) = .list ds := rfl
@[simp] theorem resL_t : resL M (.tuple ds) = .tuple ds := rfl
theorem resL_c (h : M a = some (.lst ds)) : resL M (cellD a) = .list ds := by
  unfold resL
  rw [celM_c, h]
@[simp] theorem gEq_s : gEq M x y R = fEq (resL M x) (resL M y) R := rfl
@[simp] theorem gNe_s : gNe M x y R = fNe (resL M x) (resL M y) R := rfl
end
end Wx

namespace Wx
open PySem PySem.Spec PyProof.Rows L2

/-! ### built-ins over values, cells among them -/
def RCOkM (K : PySem.W.Frag) (r : List V → Hp → VK → Prop) (g : Mu → FC) : Prop := ∀ (bx : Option Bx) (G : Gm) (H : Hp) (vs : List V) (ds : List PyData) (R : PyData → Prop) (Q : VK), Wo K bx G H → RpAll K G vs ds → g G.M ds R →
  (∀ u G' H' d, Gro G.G H G' H' → Same G' H' → Rp K G' u d → R d → Q u H') → r vs H Q
def RCFOkM (K : PySem.W.Frag) (r : List V → Hp → VK → Prop) (g : Mu → FCF) : Prop := ∀ (bx : Option Bx) (G : Gm) (H : Hp) (vs : List V) (ds : List PyData) (R : List PyData → Prop) (Q : VK), Wo K bx G H → RpAll K G vs ds → g G.M ds R →
  (∀ p xs es, H p = none → RpAll K G xs es → R es → Q (.ref p) (upd H p (.lst xs))) → r vs H Q
def dCBG (g : Mu → FC) (da : DA) : DE := fun E R Xn => da E (fun as M => ∃ ds, as = ds.map .dat ∧ g M ds fun d => R d M) Xn
def dCBFG (g : Mu → FCF) (da : DA) : DF := fun E R Xn => da E (fun as M => ∃ ds, as = ds.map .dat ∧ g M ds fun d => R d M) Xn
section
variable {X : Cx} {W : WX} {pos p : Pos} {e : Expr} {es : List Expr} {da : DA} {x : Str} {id T : String} {r : List V → Hp → VK → Prop} {g : Mu → FC} {gf : Mu → FCF}
theorem lift_cbG {K : PySem.W.Frag} (hs : RCOkM K r g) {σ : L2.St} {H : Hp} {Q : VK} (h : liftE K W (dCBG g da) σ H Q) : tCB r (liftA K W da) σ H Q := by
  obtain ⟨P, R, Xn, S, h, k, kx⟩ := h
  refine ⟨P, _, Xn, S, h, fun vs G1 H1 as e1 S1 r1 ⟨ds, ea, hR⟩ => ?_, kx⟩
  subst ea
  exact hs P.bx G1 H1 vs ds (fun d => R d G1.M) Q S1.w r1.dats hR fun u G' H' d e2 s2 r2 h2 => k u ⟨G', G1.M⟩ H' d (e1.trans e2.any) (S1.pure e2 s2) r2 h2
theorem lift_cbfG {K : PySem.W.Frag} (hs : RCFOkM K r gf) {σ : L2.St} {H : Hp} {Q : VK} (h : liftF K W (dCBFG gf da) σ H Q) : tCB r (liftA K W da) σ H Q := by
  obtain ⟨P, R, Xn, S, h, k, kx⟩ := h
  refine ⟨P, _, Xn, S, h, fun vs G1 H1 as e1 S1 r1 ⟨ds, ea, hR⟩ => ?_, kx⟩
  subst ea
  refine hs P.bx G1 H1 vs ds (fun d => R d G1.M) Q S1.w r1.dats hR fun p xs es hp rr hR => ?_
  have en : Gro G1.G H1 G1.G (upd H1 p (.lst xs)) := Gro.own hp
  exact k p xs G1 _ es (e1.trans en.any) (S1.pure en (same_own S1.w.s hp)) (e1.none_of hp) (S1.w.s.free hp) (S1.w.m_none hp) upd_same rr hR
theorem q_callBG (hc : CallR X (.builtin id) r) (hs : RCOkM X.K r g) (hm : X.mg x = none) (ha : QA X W (e :: es) da) (hg : Gl X x := by rfl) (hv : bootBuiltins x = some (.builtin id) := by decide +kernel) (hn : x ≠ "__name__" := by decide) (hdb : (x == ("__debug__" : Str)) = false := by decide)
    (he : starEach (e :: es) X.env = (false, eval e X.env) :: starEach es X.env := by rfl) (hpl : (backTo pos (starEach es X.env)).any (·.1) = false := by rfl) : QE X W (.Call (.Name x p) (e :: es) [] pos) (dCBG g da) :=
  pe_imp (pe_callB hc hg hm hv ha hn hdb he hpl) fun _ _ _ => lift_cbG hs
theorem q_callTG (hc : CallR X (.type T) r) (hs : RCOkM X.K r g) (hm : X.mg x = none) (ha : QA X W (e :: es) da) (hg : Gl X x := by rfl) (hv : bootBuiltins x = some (.type T) := by decide +kernel) (hn : x ≠ "__name__" := by decide) (hdb : (x == ("__debug__" : Str)) = false := by decide)
    (he : starEach (e :: es) X.env = (false, eval e X.env) :: starEach es X.env := by rfl) (hpl : (backTo pos (starEach es X.env)).any (·.1) = false := by rfl) : QE X W (.Call (.Name x p) (e :: es) [] pos) (dCBG g da) :=
  pe_imp (pe_callTy hc hg hm hv ha hn hdb he hpl) fun _ _ _ => lift_cbG hs
theorem f_callTG (hc : CallR X (.type T) r) (hs : RCFOkM X.K r gf) (hm : X.mg x = none) (ha : QA X W (e :: es) da) (hg : Gl X x := by rfl) (hv : bootBuiltins x = some (.type T) := by decide +kernel) (hn : x ≠ "__name__" := by decide) (hdb : (x == ("__debug__" : Str)) = false := by decide)
    (he : starEach (e :: es) X.env = (false, eval e X.env) :: starEach es X.env := by rfl) (hpl : (backTo pos (starEach es X.env)).any (·.1) = false := by rfl) : QF X W (.Call (.Name x p) (e :: es) [] pos) (dCBFG gf da) :=
  pe_imp (pe_callTy hc hg hm hv ha hn hdb he hpl) fun _ _ _ => lift_cbfG hs
end
/-! len -/
def gLen1 (M : Mu) (d : PyData) (R : PyData → Prop) : Prop := match celM M d with
  | some (.lst xs) => xs.length ≤ sizeLine ∧ R (.int xs.length)
  | some (.dct _ kvs) => R (.int kvs.length)
  | some (.ins _ _) => False
  | none => fLen [d] R ∨ ∃ kvs, d = dctD kvs ∧ R (.int (kvs.length : Nat))
def gLen (M : Mu) : FC := fun ds R => ∃ d, ds = [d] ∧ gLen1 M d R
def rLenD : List V → Hp → VK → Prop := fun xs H Q => ∃ a kvs, xs = [V.ref a] ∧ Rd H a (.dK kvs) ∧ Q (.int kvs.length) H
theorem call_lenR {X : Cx} : CallR X (.builtin "len") rLenD := by
  intro pins s σ H xs us Q I r h
  obtain ⟨a, kvs, rfl, ha, q⟩ := h
  obtain ⟨u, rfl, ru⟩ := vals1 r
  cases ru
  exact d_len I ha fun t s' I' => ⟨.int kvs.length, H, I', ⟨t, rfl⟩, q⟩
theorem lenM_ok {K : PySem.W.Frag} : RCOkM K (fun xs H Q => (∃ x n, xs = [x] ∧ LenV K x H n ∧ Q (.int n) H) ∨ rLenD xs H Q) gLen := fun bx G H vs ds R Q wo rr ⟨d, e, h⟩ k => by
  subst e
  cases rr with
  | cons r1 r0 =>
    cases r0
    unfold gLen1 at h
    split at h
    · rename_i xs hc
      obtain ⟨a, ex, hm⟩ := celM_some hc
      subst ex
      have ev := r1.cell_inv
      subst ev
      obtain ⟨⟨ys, h1, h2⟩, _, _⟩ := wo.c a _ hm
      exact .inl ⟨.ref a, ys.length, rfl, .inl ⟨ys, SqL.of h1, rfl⟩, k _ G.G H _ Gro.refl wo.s (.int _) (by rw [h2.length]; exact h.2)⟩
    · rename_i l kvs hc
      obtain ⟨a, ex, hm⟩ := celM_some hc
      subst ex
      have ev := r1.cell_inv
      subst ev
      obtain ⟨c1, _, _⟩ := wo.c a _ hm
      cases l with
      | none => obtain ⟨ks, h1, h2⟩ := c1; exact .inr ⟨a, ks, rfl, .inl h1, k _ G.G H _ Gro.refl wo.s (.int _) (by rw [h2.length]; exact h)⟩
      | some t => obtain ⟨h1, h2⟩ := c1; exact .inr ⟨a, t.2, rfl, .inr ⟨t.1, h1⟩, k _ G.G H _ Gro.refl wo.s (.int _) (by rw [h2.length]; exact h)⟩
    · exact h.elim
    · rcases h with h | ⟨kvs, ex, h⟩
      · exact .inl (len_ok G.G H _ _ R Q wo.s (.cons r1 .nil) h k)
      · subst ex
        obtain ⟨a, o, ks, ev, h1, h2⟩ := r1.dct_inv
        subst ev
        exact .inr ⟨a, ks, rfl, .inr ⟨o, wo.s _ _ h1⟩, k _ G.G H _ Gro.refl wo.s (.int _) (by rw [h2.length]; exact h)⟩
/-! list, of a dict its keys -/
def gList1 (M : Mu) (d : PyData) (R : List PyData → Prop) : Prop := match celM M d with
  | some (.lst xs) => R xs
  | some (.dct _ kvs) => R (kvs.map fun p => kD p.1)
  | some (.ins _ _) => False
  | none => fList [d] R ∨ ∃ kvs, d = dctD kvs ∧ R (kvs.map fun p => kD p.1)
def gList (M : Mu) : FCF := fun ds R => ∃ d, ds = [d] ∧ gList1 M d R
def rListD : List V → Hp → VK → Prop := fun xs H Q => ∃ (a : Addr) (kvs : List (Key × V)), xs = [V.ref a] ∧ Rd H a (.dK kvs) ∧ ∀ p, H p = none → Q (.ref p) (upd H p (.lst (kvs.map fun q => kV q.1)))
theorem call_listD {X : Cx} (hc : X.calm = true) : CallR X (.type "list") rListD := by
  intro pins s σ H xs us Q I r h
  obtain ⟨a, kvs, rfl, ha, q⟩ := h
  obtain ⟨u, rfl, ru⟩ := vals1 r
  cases ru
  obtain ⟨z, lo, vs, rel, dd⟩ := dk_rd I.hok ha
  obtain ⟨ep, hd⟩ : ∃ ep, s.heap.DictAt (mixKind X.prog X.w) a vs ep := let ⟨o, es, ep, h1, h2, h3, h4, h5, h6⟩ := dd; ⟨ep, o, es, h1, h2, h3, h4, h5, h6⟩
  refine PySem.W.kdl_call (PySem.W.kdl_dict (kvs := vs) lo) (I.ok.hd hc) hd (by rw [← rel.length]; exact z) fun h' tk acc' c' hk hS hacc => ?_
  have hl : (kvs.map fun q => kV q.1).length ≤ sizeLine := by rw [List.length_map]; exact z
  have hv : Vals (kvs.map fun q => kV q.1) acc'.toList := by
    have hn : acc'.toList.length = kvs.length := by rw [Array.length_toList, hacc.1, rel.length]
    have go : ∀ (n : Nat) (ks : List (Key × V)) (us : List Value), us.length = ks.length → (∀ (j : Nat) (u : Value), us[j]? = some u → ∃ k v, ks[j]? = some (k, v) ∧ keyIs k u = true) → Vals (ks.map fun q => kV q.1) us := by
      intro n ks
      induction ks with
      | nil => intro us hu _; cases us with
        | nil => exact .nil
        | cons => simp at hu
      | cons p ks ih => intro us hu hj; cases us with
        | nil => simp at hu
        | cons u us =>
          obtain ⟨k, v, e1, e2⟩ := hj 0 u rfl
          have e1 : p = (k, v) := by simpa using e1
          subst e1
          exact .cons (relV_key e2) (ih us (by simpa using hu) fun j w hw => by
            obtain ⟨k', v', e3, e4⟩ := hj (j + 1) w (by simpa using hw)
            exact ⟨k', v', by simpa using e3, e4⟩)
    refine go 0 kvs acc'.toList hn fun j u hu => ?_
    obtain ⟨k, x, e1, e2⟩ := hacc.2 j u (by rw [← Array.getElem?_toList]; exact hu)
    have hj : j < kvs.length := by
      have := (List.getElem?_eq_some_iff.mp hu).1
      omega
    have ek := congrArg (fun l => l[j]?) rel.keys
    simp only [List.getElem?_map, e1] at ek
    rw [List.getElem?_eq_getElem hj] at ek ⊢
    simp at ek
    exact ⟨kvs[j].1, kvs[j].2, rfl, by rw [ek]; exact e2⟩
  exact ⟨.ref _, upd H s.heap.objs.size (.lst (kvs.map fun q => kV q.1)), I.laid (t' := tk) hk (Nat.le_refl _) (show ObjOk X.prog X.w _ _ _ (.lst _) from ⟨hl, acc'.toList, c', hv, by simpa using hS⟩), rfl, q _ (I.hok.fresh (Nat.le_refl _))⟩
theorem rps_keys {K : PySem.W.Frag} {G : Hp} {ks : List (Key × V)} {kvs : List (Key × PyData)} (r : RpK K G ks kvs) : RpAll K G (ks.map fun q => kV q.1) (kvs.map fun p => kD p.1) := by
  have e : ks.map (fun q => kV q.1) = (ks.map (·.1)).map kV := by simp
  have e2 : kvs.map (fun q => kD q.1) = (kvs.map (·.1)).map kD := by simp
  rw [e, e2, r.keys]
  generalize kvs.map (·.1) = l
  induction l with
  | nil => exact .nil
  | cons k l ih => exact .cons (by cases k <;> first | exact .int _ | exact .str _) ih
abbrev rListS (K : PySem.W.Frag) : List V → Hp → VK → Prop := fun xs H Q => ∃ p ys, xs = [V.ref p] ∧ (SqL K H p ys ∨ SqT K H p ys) ∧ ∀ l, H l = none → Q (.ref l) (upd H l (.lst ys))
theorem listM_ok {K : PySem.W.Frag} : RCFOkM K (fun xs H Q => rListS K xs H Q ∨ rListD xs H Q) gList := fun bx G H vs ds R Q wo rr ⟨d, e, h⟩ k => by
  subst e
  cases rr with
  | cons r1 r0 =>
    cases r0
    unfold gList1 at h
    split at h
    · rename_i xs hc
      obtain ⟨a, ex, hm⟩ := celM_some hc
      subst ex
      have ev := r1.cell_inv
      subst ev
      obtain ⟨⟨ys, h1, h2⟩, _, _⟩ := wo.c a _ hm
      exact .inl ⟨a, ys, rfl, .inl (SqL.of h1), fun l hl => k l ys _ hl h2 h⟩
    · rename_i l kvs hc
      obtain ⟨a, ex, hm⟩ := celM_some hc
      subst ex
      have ev := r1.cell_inv
      subst ev
      obtain ⟨c1, _, _⟩ := wo.c a _ hm
      cases l with
      | none => obtain ⟨ks, h1, h2⟩ := c1; exact .inr ⟨a, ks, rfl, .inl h1, fun l hl => k l _ _ hl (rps_keys h2) h⟩
      | some t => obtain ⟨h1, h2⟩ := c1; exact .inr ⟨a, t.2, rfl, .inr ⟨t.1, h1⟩, fun l hl => k l _ _ hl (rps_keys h2) h⟩
    · exact h.elim
    · rcases h with h | ⟨kvs, ex, h⟩
      · exact .inl (list_ok G.G H _ _ R Q wo.s (.cons r1 .nil) h k)
      · subst ex
        obtain ⟨a, o, ks, ev, h1, h2⟩ := r1.dct_inv
        subst ev
        exact .inr ⟨a, ks, rfl, .inr ⟨o, wo.s _ _ h1⟩, fun l hl => k l _ _ hl (rps_keys h2) h⟩
/-! tuple -/
def gTuple (M : Mu) : FC := fun ds R => ∃ d, ds = [d] ∧ (fTuple [resL M d] R)
/-! dict(d): a new cell -/
def asDctM (M : Mu) (d : PyData) (R : List (Key × PyData) → Prop) : Prop := match celM M d with
  | some (.dct _ kvs) => R kvs
  | some _ => False
  | none => ∃ kvs, d = dctD kvs ∧ R kvs
def dCopyD (de : DE) : DE := fun E R Xn => de E (fun d M => asDctM M d fun kvs => ∀ a, M a = none → R (cellD a) (M.set a (.dct none kvs))) Xn
section
variable {X : Cx} {W : WX} {pos p apos cpos p2 tpos : Pos} {e e2 o i : Expr} {es : List Expr} {da : DA} {de db dob di : DE}
theorem b_lenG (fr : Fr X.mg) (ha : QA X W [e] da) (hg : Gl X "len" := by rfl) (he : starEach [e] X.env = (false, eval e X.env) :: starEach [] X.env := by rfl) : QE X W (.Call (.Name "len" p) [e] [] pos) (dCBG gLen da) := q_callBG (CallR.or call_len call_lenR) lenM_ok fr.len ha hg bv_len (by decide) (by decide) he rfl
theorem b_listG (fr : Fr X.mg) (hc : X.calm = true) (ha : QA X W [e] da) (hg : Gl X "list" := by rfl) (he : starEach [e] X.env = (false, eval e X.env) :: starEach [] X.env := by rfl) : QF X W (.Call (.Name "list" p) [e] [] pos) (dCBFG gList da) := f_callTG (CallR.or call_list_of (call_listD hc)) listM_ok fr.list ha hg bv_list (by decide) (by decide) he rfl
theorem bv_dict : bootBuiltins ("dict" : Str) = some (.type "dict") := by decide +kernel
theorem b_dictG (fr : Fr X.mg) (he : QE X W e de) (hg : Gl X "dict" := by rfl) (hs : starEach [e] X.env = (false, eval e X.env) :: starEach [] X.env := by rfl) : QE X W (.Call (.Name "dict" p) [e] [] pos) (dCopyD de) :=
  pe_imp (pe_callTy call_dictD hg fr.dict bv_dict (pa_cons he pa_nil hs) (by decide) (by decide) hs rfl) fun σ H Q ⟨P, R, Xn, S, h, k, kx⟩ =>
  ⟨P, _, Xn, S, h, fun v G1 H1 d e1 S1 r1 hR => by
    have key : ∀ (a : Addr) (ks : List (Key × V)) (kvs : List (Key × PyData)), Rd H1 a (.dK ks) → RpK X.K G1 ks kvs → (∀ b, G1.M b = none → R (cellD b) (G1.M.set b (.dct none kvs))) →
        ∃ (a' : Addr) (kvs' : List (Key × V)), [V.ref a] = [.ref a'] ∧ Rd H1 a' (.dK kvs') ∧ ∀ q, H1 q = none → Q (.ref q) (upd H1 q (.dK kvs')) := fun a ks kvs hr rk hR => by
      refine ⟨a, ks, rfl, hr, fun q hq => ?_⟩
      have en : Gro G1.G H1 G1.G (upd H1 q (.dK ks)) := Gro.own hq
      have S2 := S1.pure en (same_own S1.w.s hq)
      have e2 : Ext P.bx G1 H1 ⟨G1.G, G1.M.set q (.dct none kvs)⟩ (upd H1 q (.dK ks)) := Ext.newCell (G1 := ⟨G1.G, G1.M⟩) en.any hq
      exact k (.ref q) ⟨G1.G, G1.M.set q (.dct none kvs)⟩ _ (cellD q) (e1.trans e2) (S2.newCell (S1.x.none_of hq) (S1.w.s.free hq) (S1.w.m_none hq) (S1.w.off hq) upd_same ⟨ks, upd_same, rk⟩ fun j es q' hσ => S1.no_own hq j es q' hσ) .of_cel (hR q (S1.w.m_none hq))
    unfold asDctM at hR
    split at hR
    · rename_i l kvs hc
      obtain ⟨a, ex, hm⟩ := celM_some hc
      subst ex
      have ev := r1.cell_inv
      subst ev
      obtain ⟨c1, _, _⟩ := S1.w.c a _ hm
      cases l with
      | none => obtain ⟨ks, h1, h2⟩ := c1; exact key a ks kvs (.inl h1) h2 hR
      | some t => obtain ⟨h1, h2⟩ := c1; exact key a t.2 kvs (.inr ⟨t.1, h1⟩) h2 hR
    · exact hR.elim
    · obtain ⟨kvs, ex, hR⟩ := hR
      subst ex
      obtain ⟨a, o, ks, ev, h1, h2⟩ := r1.dct_inv
      subst ev
      exact key a ks kvs (.inr ⟨o, S1.w.s _ _ h1⟩) h2 hR, kx⟩
end
/-! ### cells that change -/
def putD (kvs : List (Key × PyData)) (k : Key) (v : PyData) : List (Key × PyData) := if (kvs.any fun kv => decide (kv.1 = k)) = true then kvs.map (fun kv => if kv.1 = k then (kv.1, v) else kv) else kvs ++ [(k, v)]
def dropD (kvs : List (Key × PyData)) (k : Key) : List (Key × PyData) := kvs.filter fun kv => decide (kv.1 ≠ k)
section
variable {K : PySem.W.Frag} {G : Hp}
theorem RpK.any {ks : List (Key × V)} {kvs : List (Key × PyData)} (r : RpK K G ks kvs) (k : Key) : (ks.any fun kv => decide (kv.1 = k)) = kvs.any fun kv => decide (kv.1 = k) := by
  have := congrArg (fun l => l.any fun x => decide (x = k)) r.keys
  simpa [List.any_map, Function.comp_def] using this
theorem RpK.rpl {k : Key} {v : V} {d : PyData} (rv : Rp K G v d) : ∀ {ks : List (Key × V)} {kvs : List (Key × PyData)}, RpK K G ks kvs → RpK K G (ks.map fun kv => if kv.1 = k then (kv.1, v) else kv) (kvs.map fun kv => if kv.1 = k then (kv.1, d) else kv)
  | _, _, .nil => .nil
  | _, _, .cons (k := k') r t => by
    rw [List.map_cons, List.map_cons]
    by_cases e : k' = k
    · simp only [e, if_true]; exact .cons rv (RpK.rpl rv t)
    · simp only [e, if_false]; exact .cons r (RpK.rpl rv t)
theorem RpK.app : ∀ {ks ls : List (Key × V)} {kvs lvs : List (Key × PyData)}, RpK K G ks kvs → RpK K G ls lvs → RpK K G (ks ++ ls) (kvs ++ lvs)
  | _, _, _, _, .nil, s => s
  | _, _, _, _, .cons r t, s => .cons r (RpK.app t s)
theorem RpK.put {ks : List (Key × V)} {kvs : List (Key × PyData)} (r : RpK K G ks kvs) (k : Key) {v : V} {d : PyData} (rv : Rp K G v d) : RpK K G (putK ks k v) (putD kvs k d) := by
  unfold putK putD
  rw [r.any]
  split
  · exact r.rpl rv
  · exact r.app (.cons rv .nil)
theorem RpK.drop (k : Key) : ∀ {ks : List (Key × V)} {kvs : List (Key × PyData)}, RpK K G ks kvs → RpK K G (dropK ks k) (dropD kvs k)
  | _, _, .nil => .nil
  | _, _, .cons (k := k') r t => by
    unfold dropK dropD
    by_cases e : k' = k
    · simp only [List.filter_cons, e]
      simpa [dropK, dropD] using RpK.drop k t
    · have := RpK.drop k t
      simp only [List.filter_cons]
      rw [if_pos (by simpa using e), if_pos (by simpa using e)]
      exact .cons r (by simpa [dropK, dropD] using this)
theorem RpAll.ers : ∀ {xs : List V} {ds : List PyData} (i : Nat), RpAll K G xs ds → RpAll K G (xs.eraseIdx i) (ds.eraseIdx i)
  | _, _, _, .nil => .nil
  | _, _, 0, .cons _ t => t
  | _, _, i + 1, .cons r t => .cons r (RpAll.ers i t)
end
/-- a list cell's next content -/
def asLM (M : Mu) (x : PyData) (R : Addr → List PyData → Prop) : Prop := ∃ a ds, x = cellD a ∧ M a = some (.lst ds) ∧ R a ds
def dAppC (dob de : DE) : DE := fun E R Xn => dob E (fun x M => asLM M x fun a _ => de E (fun d M => ∃ ds, M a = some (.lst ds) ∧ ds.length < sizeLine ∧ R .none (M.set a (.lst (ds ++ [d])))) Xn M) Xn
def dInsC (dob di de : DE) : DE := fun E R Xn => dob E (fun x M => asLM M x fun a _ => di E (fun z => de E (fun d M => ∃ ds k, M a = some (.lst ds) ∧ z = .int k ∧ ds.length < sizeLine ∧ 0 ≤ k ∧ k < 2 ^ 63 ∧ R .none (M.set a (.lst (ds.take k.toNat ++ [d] ++ ds.drop k.toNat)))) Xn) Xn M) Xn
def dExtC (dob de : DE) : DE := fun E R Xn => dob E (fun x M => asLM M x fun a _ => de E (fun d M => ∃ ds es, M a = some (.lst ds) ∧ resL M d = .list es ∧ (ds.length + es.length ≤ sizeLine) ∧ R .none (M.set a (.lst (ds ++ es)))) Xn M) Xn
def dPopC (dob : DE) : DE := fun E R Xn => dob E (fun x M => asLM M x fun a ds => ∃ d, ds.getLast? = some d ∧ R d (M.set a (.lst ds.dropLast))) Xn
def dClrC (dob : DE) : DE := fun E R Xn => dob E (fun x M => asLM M x fun a _ => R .none (M.set a (.lst []))) Xn
def dPopD (dob de : DE) : DE := fun E R Xn => dob E (fun x M => (∃ a kvs, x = cellD a ∧ M a = some (.dct none kvs)) ∧ de E (fun y M => ∃ a kvs k d, x = cellD a ∧ M a = some (.dct none kvs) ∧ y = kD k ∧ lookK kvs k = some d ∧ R d (M.set a (.dct none (dropD kvs k)))) Xn M) Xn
section
variable {X : Cx} {W : WX} {pos p apos cpos p2 tpos : Pos} {e e2 o i : Expr} {es : List Expr} {da : DA} {de db dob di : DE}
/-- a cell written, as a rule asks it -/
theorem wr_cell {K : PySem.W.Frag} {P : Pt} {σ : L2.St} {G1 : Gm} {H H1 : Hp} {a : Addr} {ob ob' : Ob} {o : HO} {R : PyData → Mu → Prop} {Q : VK} {v : V} {d : PyData} (e1 : Ext P.bx P.G H G1 H1) (S1 : (P.go G1).ok K H1 σ) (hm : G1.M a = some ob) (c : ObOk K G1 (upd H1 a o) a ob')
    (k : ∀ v (G' : Gm) H' d, Ext P.bx P.G H G' H' → (P.go G').ok K H' σ → Rp K G' v d → R d G'.M → Q v H') (r : Rp K G1 v d) (h : R d (G1.M.set a ob')) : Q v (upd H1 a o) := by
  obtain ⟨e2, w2⟩ := Ext.cell S1.w hm c
  exact k v ⟨G1.G, G1.M.set a ob'⟩ _ d (e1.trans e2) (S1.ext e2 w2) r h
theorem wr_lst {K : PySem.W.Frag} {P : Pt} {σ : L2.St} {G1 : Gm} {H H1 : Hp} {a : Addr} {ob : Ob} {xs : List V} {ds : List PyData} {R : PyData → Mu → Prop} {Q : VK} {v : V} {d : PyData} (e1 : Ext P.bx P.G H G1 H1) (S1 : (P.go G1).ok K H1 σ) (hm : G1.M a = some ob) (c : RpAll K G1 xs ds)
    (k : ∀ v (G' : Gm) H' d, Ext P.bx P.G H G' H' → (P.go G').ok K H' σ → Rp K G' v d → R d G'.M → Q v H') (r : Rp K G1 v d) (h : R d (G1.M.set a (.lst ds))) : Q v (upd H1 a (.lst xs)) := wr_cell e1 S1 hm (ob' := .lst ds) ⟨xs, upd_same, c⟩ k r h
theorem wr_dct {K : PySem.W.Frag} {P : Pt} {σ : L2.St} {G1 : Gm} {H H1 : Hp} {a : Addr} {ob : Ob} {xs : List (Key × V)} {ds : List (Key × PyData)} {R : PyData → Mu → Prop} {Q : VK} {v : V} {d : PyData} (e1 : Ext P.bx P.G H G1 H1) (S1 : (P.go G1).ok K H1 σ) (hm : G1.M a = some ob) (c : RpK K G1 xs ds)
    (k : ∀ v (G' : Gm) H' d, Ext P.bx P.G H G' H' → (P.go G').ok K H' σ → Rp K G' v d → R d G'.M → Q v H') (r : Rp K G1 v d) (h : R d (G1.M.set a (.dct none ds))) : Q v (upd H1 a (.dK xs)) := wr_cell e1 S1 hm (ob' := .dct none ds) ⟨xs, upd_same, c⟩ k r h
theorem c_app (ho : QE X W o dob) (he : QE X W e de) (hbase : attributeBase o "append" X.env (eval o X.env) = eval o X.env := by rfl) (hs : starEach [e] X.env = (false, eval e X.env) :: starEach [] X.env := by rfl) (hline : (apos.endLine == cpos.line) = true := by rfl)
    (hfew : ((backTo cpos (starEach [e] X.env)).all (fun x => !x.1) && (backToKw cpos (keywordEach [] X.env)).all (fun x => x.1.isSome) && decide ([e].length + ([] : List Keyword).length + (if ([] : List Keyword).isEmpty then 0 else 1) < 30)) = true := by rfl) :
    QE X W (.Call (.Attribute o "append" apos) [e] [] cpos) (dAppC dob de) := pe_imp (pe_bm PySem.F.plainAttrs_list PySem.F.slot_list_append PySem.F.type_list_append mt_append ho (pa_cons he pa_nil hs) hbase hfew hline hs rfl) fun σ H Q ⟨P, R, Xn, S, h, k, kx⟩ =>
  ⟨P, _, Xn, S, h, fun v G1 H1 d e1 S1 r1 ⟨a, ds, ex, hm, h1⟩ => by
    subst ex
    have ev := r1.cell_inv
    subst ev
    obtain ⟨⟨xs, c1, c2⟩, _, _⟩ := S1.w.c a _ hm
    refine ⟨.inl ⟨rfl, xs, SqL.of c1⟩, P.go G1, _, Xn, S1, h1, fun w G2 H2 z e2 S2 r2 ⟨ds2, hm2, hl, hR⟩ => ?_, kx⟩
    obtain ⟨⟨ys, d1, d2⟩, _, _⟩ := S2.w.c a _ hm2
    exact ⟨a, ys, w, rfl, rfl, d1, by rw [d2.length]; exact hl, wr_lst (e1.trans e2) S2 hm2 (d2.app (.cons r2 .nil)) k .non hR⟩, kx⟩
theorem c_ins (ho : QE X W o dob) (hi : QE X W i di) (he : QE X W e de) (hbase : attributeBase o "insert" X.env (eval o X.env) = eval o X.env := by rfl) (hs : starEach [i, e] X.env = (false, eval i X.env) :: starEach [e] X.env := by rfl) (hs2 : starEach [e] X.env = (false, eval e X.env) :: starEach [] X.env := by rfl) (hline : (apos.endLine == cpos.line) = true := by rfl)
    (hfew : ((backTo cpos (starEach [i, e] X.env)).all (fun x => !x.1) && (backToKw cpos (keywordEach [] X.env)).all (fun x => x.1.isSome) && decide ([i, e].length + ([] : List Keyword).length + (if ([] : List Keyword).isEmpty then 0 else 1) < 30)) = true := by rfl) (hpl : (backTo cpos (starEach [e] X.env)).any (·.1) = false := by rfl) :
    QE X W (.Call (.Attribute o "insert" apos) [i, e] [] cpos) (dInsC dob di de) := pe_imp (pe_bm PySem.F.plainAttrs_list PySem.F.slot_list_insert PySem.F.type_list_insert mt_insert ho (pa_cons hi (pa_cons he pa_nil hs2) hs) hbase hfew hline hs hpl) fun σ H Q ⟨P, R, Xn, S, h, k, kx⟩ =>
  ⟨P, _, Xn, S, h, fun v G1 H1 d e1 S1 r1 ⟨a, ds, ex, hm, h1⟩ => by
    subst ex
    have ev := r1.cell_inv
    subst ev
    obtain ⟨⟨xs, c1, c2⟩, _, _⟩ := S1.w.c a _ hm
    refine ⟨.inl ⟨rfl, xs, SqL.of c1⟩, P.go G1, _, Xn, S1, h1, fun u G3 H3 z e3 S3 r3 h3 => ⟨P.go G3, _, Xn, S3, h3, fun w G2 H2 d2 e2 S2 r2 ⟨ds2, kk, hm2, ez, hl, hk1, hk2, hR⟩ => ?_, kx⟩, kx⟩
    subst ez
    cases r3
    obtain ⟨⟨ys, d1, d3⟩, _, _⟩ := S2.w.c a _ hm2
    exact ⟨a, ys, kk, w, rfl, rfl, d1, by rw [d3.length]; exact hl, hk1, hk2, wr_lst (e1.trans (e3.trans e2)) S2 hm2 (((d3.tk _).app (.cons r2 .nil)).app (d3.dr _)) k .non hR⟩, kx⟩
theorem c_ext (ho : QE X W o dob) (he : QE X W e de) (hbase : attributeBase o "extend" X.env (eval o X.env) = eval o X.env := by rfl) (hs : starEach [e] X.env = (false, eval e X.env) :: starEach [] X.env := by rfl) (hline : (apos.endLine == cpos.line) = true := by rfl)
    (hfew : ((backTo cpos (starEach [e] X.env)).all (fun x => !x.1) && (backToKw cpos (keywordEach [] X.env)).all (fun x => x.1.isSome) && decide ([e].length + ([] : List Keyword).length + (if ([] : List Keyword).isEmpty then 0 else 1) < 30)) = true := by rfl) :
    QE X W (.Call (.Attribute o "extend" apos) [e] [] cpos) (dExtC dob de) := pe_imp (pe_bm PySem.F.plainAttrs_list PySem.F.slot_list_extend PySem.F.type_list_extend mt_extend ho (pa_cons he pa_nil hs) hbase hfew hline hs rfl) fun σ H Q ⟨P, R, Xn, S, h, k, kx⟩ =>
  ⟨P, _, Xn, S, h, fun v G1 H1 d e1 S1 r1 ⟨a, ds, ex, hm, h1⟩ => by
    subst ex
    have ev := r1.cell_inv
    subst ev
    obtain ⟨⟨xs, c1, c2⟩, _, _⟩ := S1.w.c a _ hm
    refine ⟨.inl ⟨rfl, xs, SqL.of c1⟩, P.go G1, _, Xn, S1, h1, fun w G2 H2 z e2 S2 r2 ⟨ds2, es, hm2, er, hl, hR⟩ => ?_, kx⟩
    obtain ⟨⟨ys, d1, d2⟩, _, _⟩ := S2.w.c a _ hm2
    have hb : ∃ b zs, w = .ref b ∧ H2 b = some (.lst zs) ∧ RpAll X.K G2 zs es := by
      unfold resL at er
      split at er
      · rename_i ds3 hc
        obtain ⟨b, eb, hmb⟩ := celM_some hc
        subst eb
        have ev := r2.cell_inv
        subst ev
        obtain ⟨⟨zs, f1, f2⟩, _, _⟩ := S2.w.c b _ hmb
        cases er
        exact ⟨b, zs, rfl, f1, f2⟩
      · subst er
        cases r2 with
        | lst f1 f2 => exact ⟨_, _, rfl, S2.w.s _ _ f1, f2⟩
    obtain ⟨b, zs, ew, f1, f2⟩ := hb
    exact ⟨a, b, ys, zs, rfl, by rw [ew], d1, f1, by rw [d2.length, f2.length]; exact hl, wr_lst (e1.trans e2) S2 hm2 (d2.app f2) k .non hR⟩, kx⟩
theorem c_pop (ho : QE X W o dob) (hbase : attributeBase o "pop" X.env (eval o X.env) = eval o X.env := by rfl) (hline : (apos.endLine == cpos.line) = true := by rfl) :
    QE X W (.Call (.Attribute o "pop" apos) [] [] cpos) (dPopC dob) := pe_imp (pe_bm0 PySem.F.plainAttrs_list PySem.F.slot_list_pop PySem.F.type_list_pop mt_pop ho hbase hline) fun σ H Q ⟨P, R, Xn, S, h, k, kx⟩ =>
  ⟨P, _, Xn, S, h, fun v G1 H1 d e1 S1 r1 ⟨a, ds, ex, hm, d2, hd, h1⟩ => by
    subst ex
    have ev := r1.cell_inv
    subst ev
    obtain ⟨⟨xs, c1, c2⟩, _, _⟩ := S1.w.c a _ hm
    rw [List.getLast?_eq_getElem?] at hd
    obtain ⟨u, hu, ru⟩ := c2.at hd
    refine ⟨.inl ⟨rfl, xs, SqL.of c1⟩, a, xs, u, rfl, rfl, c1, by rw [c2.length]; exact hu, wr_lst e1 S1 hm c2.dl k ru h1⟩, kx⟩
theorem c_clr (ho : QE X W o dob) (hbase : attributeBase o "clear" X.env (eval o X.env) = eval o X.env := by rfl) (hline : (apos.endLine == cpos.line) = true := by rfl) :
    QE X W (.Call (.Attribute o "clear" apos) [] [] cpos) (dClrC dob) := pe_imp (pe_bm0 PySem.F.plainAttrs_list PySem.F.slot_list_clear PySem.F.type_list_clear mt_clear ho hbase hline) fun σ H Q ⟨P, R, Xn, S, h, k, kx⟩ =>
  ⟨P, _, Xn, S, h, fun v G1 H1 d e1 S1 r1 ⟨a, ds, ex, hm, h1⟩ => by
    subst ex
    have ev := r1.cell_inv
    subst ev
    obtain ⟨⟨xs, c1, c2⟩, _, _⟩ := S1.w.c a _ hm
    exact ⟨.inl ⟨rfl, xs, SqL.of c1⟩, a, xs, rfl, rfl, c1, wr_lst e1 S1 hm (xs := []) .nil k .non h1⟩, kx⟩
theorem c_dpop (ho : QE X W o dob) (he : QE X W e de) (m : M1 X o "pop" apos e cpos := by exact ⟨rfl, rfl, rfl, rfl⟩) : QE X W (.Call (.Attribute o "pop" apos) [e] [] cpos) (dPopD dob de) := pe_imp (pe_dpop1 ho he m) fun σ H Q ⟨P, R, Xn, S, h, k, kx⟩ =>
  ⟨P, _, Xn, S, h, fun v G1 H1 d e1 S1 r1 ⟨⟨a, kvs, ex, hm⟩, h1⟩ => by
    subst ex
    have ev := r1.cell_inv
    subst ev
    obtain ⟨⟨ks, c1, c2⟩, _, _⟩ := S1.w.c a _ hm
    refine ⟨a, rfl, .inl ⟨ks, .inl c1⟩, P.go G1, _, Xn, S1, h1, fun w G2 H2 z e2 S2 r2 ⟨a', kvs2, kk, dd, ex, hm2, ez, hl, hR⟩ => ?_, kx⟩
    have := cellD_inj ex
    subst this
    subst ez
    have ew := rp_key r2
    subst ew
    obtain ⟨⟨ls, f1, f2⟩, _, _⟩ := S2.w.c a _ hm2
    obtain ⟨u, hu, ru⟩ := f2.val hl
    exact ⟨ls, kk, u, f1, rfl, hu, wr_dct (e1.trans e2) S2 hm2 (f2.drop kk) k ru hR⟩, kx⟩
end
theorem hu1 {X : Cx} (h : X.A.units + 65 < cLine) : X.A.units + 1 < cLine := by omega
/-! x[i] = e -/
def putG (M : Mu) (x y d : PyData) (N : Mu → Prop) : Prop := ∃ a, x = cellD a ∧ match M a with
  | some (.lst ds) => ∃ k j, y = .int k ∧ ixN ds.length k = some j ∧ N (M.set a (.lst (ds.set j d)))
  | some (.dct none kvs) => ∃ k, y = kD k ∧ kvs.length < sizeLine ∧ N (M.set a (.dct none (putD kvs k d)))
  | _ => False
def dPutG (dob di de : DE) : DS := fun R E => de E (fun d => dob E (fun x => di E (fun y M => putG M x y d fun M' => R.nx E M') (fun x => R.ex x E)) (fun x => R.ex x E)) (fun x => R.ex x E)
theorem PSet.or {X : Cx} {t t' : TSet} (h : PSet X t) (h' : PSet X t') : PSet X (fun o i v H Q => t o i v H Q ∨ t' o i v H Q) := by
  intro pins s σ H o i v ov iv u Q I ro ri rv q
  rcases q with q | q
  · exact h pins s σ H o i v ov iv u Q I ro ri rv q
  · exact h' pins s σ H o i v ov iv u Q I ro ri rv q
section
variable {X : Cx} {W : WX} {pos p apos cpos p2 tpos : Pos} {e e2 o i : Expr} {es : List Expr} {da : DA} {de db dob di : DE}
theorem s_putG (hu : X.A.units + 65 < cLine) (ho : QE X W o dob) (hi : QE X W i di) (he : QE X W e de)
    (h : ∀ te to ti, PE X e te → PE X o to → PE X i ti → PS X (.Assign [.Subscript o i tpos] e pos) (tAsg te (gSub to ti fun o i v H Q => rSetL o i v H Q ∨ rSetD o i v H Q))) : QS X W (.Assign [.Subscript o i tpos] e pos) (dPutG dob di de) := ps_imp (h _ _ _ he ho hi) fun D σ H ⟨P, R, S, h, L⟩ =>
  ⟨P, _, _, S, h, fun v G1 H1 d e1 S1 r1 h1 => ⟨P.go G1, _, _, S1, h1, fun w G2 H2 x e2 S2 r2 h2 => ⟨P.go G2, _, _, S2, h2, fun u G3 H3 y e3 S3 r3 ⟨a, ex, h3⟩ => by
    subst ex
    have r2 := r2.up e3.g
    have ev := r2.cell_inv
    subst ev
    have rv := r1.up (e2.trans e3).g
    cases hm : G3.M a with
    | none => rw [hm] at h3; exact h3.elim
    | some ob =>
      rw [hm] at h3
      obtain ⟨c1, _, _⟩ := S3.w.c a _ hm
      match ob, c1, h3, hm with
      | .lst ds, ⟨xs, c1, c2⟩, ⟨k, j, ey, hj, hN⟩, hm =>
        subst ey
        cases r3
        obtain ⟨e4, w4⟩ := Ext.cell (o := .lst (xs.set j v)) (ob' := .lst (ds.set j d)) S3.w hm ⟨_, upd_same, c2.st rv j⟩
        exact .inl ⟨a, xs, k, j, rfl, rfl, c1, by rw [c2.length]; exact hj, L.nx _ _ _ _ (S3.ext e4 w4) hN⟩
      | .dct none kvs, ⟨ks, c1, c2⟩, ⟨k, ey, hl, hN⟩, hm =>
        subst ey
        have eu := rp_key r3
        subst eu
        obtain ⟨e4, w4⟩ := Ext.cell (o := .dK (putK ks k v)) (ob' := .dct none (putD kvs k d)) S3.w hm ⟨_, upd_same, c2.put k rv⟩
        exact .inr ⟨a, _, rfl, DPut.k c1 (by rw [c2.length]; exact hl), L.nx _ _ _ _ (S3.ext e4 w4) hN⟩
      | .dct (some _) _, _, h3, _ => exact h3.elim
      | .ins _ _, _, h3, _ => exact h3.elim, L.err⟩, L.err⟩, L.err⟩
end
end Wx

namespace Wx
open PySem PySem.Spec PyProof.Rows L2

/-! ### what is walked, cells among it: ck tells what of the cells must stay -/
abbrev DIK := List En → (List PyData → (Mu → Prop) → Mu → Prop) → (Er → Mu → Prop) → Mu → Prop
structure SrcK (K : PySem.W.Frag) (bx : Option Bx) (ck : Mu → Prop) (G0 : Hp) (J : It) (items : List PyData) : Prop where
  go : ∀ (i : Nat) (G2 : Gm) (H2 : Hp), Same G0 G2.G → Wo K bx G2 H2 → ck G2.M → i < items.length → J.go i H2
  stop : ∀ (i : Nat) (G2 : Gm) (H2 : Hp), Same G0 G2.G → Wo K bx G2 H2 → ck G2.M → items.length ≤ i → J.stop i H2
  yld : ∀ (i : Nat) (G2 : Gm) (H2 : Hp) (x : V) (H' : Hp), Same G0 G2.G → Wo K bx G2 H2 → ck G2.M → i < items.length → J.yld i H2 x H' → ∃ (G3 : Hp) (d : PyData), Gro G2.G H2 G3 H' ∧ Same G3 H' ∧ items[i]? = some d ∧ Rp K G3 x d
theorem Src.k {K : PySem.W.Frag} {bx : Option Bx} {ck : Mu → Prop} {G : Hp} {J : It} {items : List PyData} (s : Src K G J items) : SrcK K bx ck G J items where
  go := fun i G2 H2 g w _ hi => s.go i G2.G H2 g w.s hi
  stop := fun i G2 H2 g w _ hi => s.stop i G2.G H2 g w.s hi
  yld := fun i G2 H2 x H' g w _ hi hy => s.yld i G2.G H2 x H' g w.s hi hy
theorem srck_cell {K : PySem.W.Frag} {bx : Option Bx} {G : Hp} {a : Addr} {ds : List PyData} : SrcK K bx (fun M => M a = some (.lst ds)) G (Itl K a) ds where
  go := fun i G2 H2 g w c hi => by
    obtain ⟨⟨xs, h1, h2⟩, _, _⟩ := w.c a _ c
    exact ⟨xs, xs[i]'(by rw [h2.length]; exact hi), SqL.of h1, by simp [h2.length, hi]⟩
  stop := fun i G2 H2 g w c hi => by
    obtain ⟨⟨xs, h1, h2⟩, _, _⟩ := w.c a _ c
    exact ⟨xs, SqL.of h1, by rw [h2.length]; exact hi⟩
  yld := fun i G2 H2 x H' g w c hi ⟨e, q⟩ => by
    subst e
    obtain ⟨⟨xs, h1, h2⟩, _, _⟩ := w.c a _ c
    obtain ⟨d, e1, e2⟩ := h2.of_at (q xs (SqL.of h1))
    exact ⟨G2.G, d, Gro.refl, w.s, e1, e2⟩
theorem keys_at {K : PySem.W.Frag} {G : Hp} {ks : List (Key × V)} {kvs : List (Key × PyData)} (r : RpK K G ks kvs) {i : Nat} {k : Key} {v : V} (h : ks[i]? = some (k, v)) : (kvs.map fun p => kD p.1)[i]? = some (kD k) := by
  have e := congrArg (fun l => l[i]?) r.keys
  simp only [List.getElem?_map, h, Option.map_some] at e
  rw [List.getElem?_map]
  cases q : kvs[i]? with
  | none => rw [q] at e; simp at e
  | some p => rw [q] at e; simp at e; simp [e]
theorem rp_kD {K : PySem.W.Frag} {G : Hp} (k : Key) : Rp K G (kV k) (kD k) := by cases k <;> first | exact .int _ | exact .str _
theorem src_keys {K : PySem.W.Frag} {G : Hp} {a : Addr} {o : Obj} {ks : List (Key × V)} {kvs : List (Key × PyData)} (h : G a = some (.frz o (.dK ks))) (r : RpK K G ks kvs) : Src K G (Itk a o ks) (kvs.map fun p => kD p.1) where
  go := fun i G2 H2 s t hi => ⟨t _ _ (s _ _ h), by rw [List.length_map] at hi; rw [r.length]; exact hi⟩
  stop := fun i G2 H2 s t hi => ⟨t _ _ (s _ _ h), by rw [List.length_map] at hi; rw [r.length]; exact hi⟩
  yld := fun i G2 H2 x H' s t hi ⟨e, k, v, q, ex⟩ => by
    subst e ex
    exact ⟨G2, kD k, Gro.refl, t, keys_at r q, rp_kD k⟩
theorem srck_lock {K : PySem.W.Frag} {bx : Option Bx} {G : Hp} {a : Addr} {o : Obj} {ks : List (Key × V)} {kvs : List (Key × PyData)} : SrcK K bx (fun M => M a = some (.dct (some (o, ks)) kvs)) G (Itk a o ks) (kvs.map fun p => kD p.1) where
  go := fun i G2 H2 g w c hi => by
    obtain ⟨⟨h1, h2⟩, _, _⟩ := w.c a _ c
    exact ⟨h1, by rw [List.length_map] at hi; rw [h2.length]; exact hi⟩
  stop := fun i G2 H2 g w c hi => by
    obtain ⟨⟨h1, h2⟩, _, _⟩ := w.c a _ c
    exact ⟨h1, by rw [List.length_map] at hi; rw [h2.length]; exact hi⟩
  yld := fun i G2 H2 x H' g w c hi ⟨e, k, v, q, ex⟩ => by
    subst e ex
    obtain ⟨⟨h1, h2⟩, _, _⟩ := w.c a _ c
    exact ⟨G2.G, kD k, Gro.refl, w.s, keys_at h2 q, rp_kD k⟩
def liftIK (K : PySem.W.Frag) (W : WX) (di : DIK) : TI := fun σ H R => ∃ (P : Pt) (Rd : List PyData → (Mu → Prop) → Mu → Prop) (Xn : Er → Mu → Prop), P.ok K H σ ∧ di P.E Rd Xn P.G.M ∧
  (∀ (G' : Gm) H' J items ck, Ext P.bx P.G H G' H' → (P.go G').ok K H' σ → SrcK K P.bx ck G'.G J items → Rd items ck G'.M → R J H') ∧ ErTo K W P σ Xn
abbrev QIK (X : Cx) (W : WX) (tg iter : Expr) (di : DIK) : Prop := PI X tg iter (liftIK X.K W di)
def iOld (di : DI) : DIK := fun E R Xn => di E (fun items => R items fun _ => True) Xn
def itG (M : Mu) (d : PyData) (R : List PyData → (Mu → Prop) → Prop) : Prop := match celM M d with
  | some (.lst ds) => R ds fun M' => celM M' d = some (.lst ds)
  | some (.dct (some t) kvs) => R (kvs.map fun p => kD p.1) fun M' => celM M' d = some (.dct (some t) kvs)
  | some _ => False
  | none => (∃ ds, seqD d = some ds ∧ R ds fun _ => True) ∨ ∃ kvs, d = dctD kvs ∧ R (kvs.map fun p => kD p.1) fun _ => True
def iG (de : DE) : DIK := fun E R Xn => de E (fun d M => itG M d fun ds ck => R ds ck M) Xn
def iAny (K : PySem.W.Frag) (tl : TE) : TI := fun σ H R => tl σ H fun x H1 => ((∃ a, x = .ref a ∧ (∃ xs, SqL K H1 a xs) ∧ R (Itl K a) H1) ∨ (∃ a, x = .ref a ∧ (∃ xs, SqT K H1 a xs) ∧ R (Itt K a) H1) ∨ ∃ z, x = .str z ∧ R (Its z) H1) ∨
  ∃ d o kvs, x = .ref d ∧ H1 d = some (.frz o (.dK kvs)) ∧ R (Itk d o kvs) H1
section
variable {X : Cx} {W : WX} {tg e : Expr} {de : DE} {di : DI}
theorem pi_any {tl : TE} (hl : PE X e tl) : PI X tg e (iAny X.K tl) := by
  refine ⟨fun pins s σ H R I h => ?_⟩
  refine thn (hl.run pins s σ H _ I h) fun v s1 ⟨x, H1, I1, r1, q1⟩ => ?_
  rcases q1 with (⟨a, e, ⟨xs, hq⟩, q⟩ | ⟨a, e, ⟨xs, hq⟩, q⟩ | ⟨z, ex, q⟩) | ⟨d, o, kvs, ex, hd, q⟩
  · subst e
    cases r1
    obtain ⟨its, rv, p, hz⟩ := I1.list hq
    refine wpAny_pyIter_list p.isList ?_
    refine ⟨s1.heap.objs.size, [s1.heap.objs.size], _, _, H1, rfl, I1.kept (t' := s1.toks) fun b o e => Heap.get?_push_of_some _ e, turn_list a _, ⟨_, Heap.get?_push_size _ rfl, rfl, rfl⟩, fun b hb => ?_, q⟩
    have e : b = s1.heap.objs.size := by simpa using hb
    subst e
    exact I1.fpOk (Nat.le_refl _) (I1.hok.fresh (Nat.le_refl _))
  · subst e
    cases r1
    obtain ⟨its, rv, p, hz⟩ := I1.tuple hq
    refine wpAny_pyIter_tuple (show s1.heap.IsTuple a its.toArray from p) ?_
    refine ⟨s1.heap.objs.size, [s1.heap.objs.size], _, _, H1, rfl, I1.kept (t' := s1.toks) fun b o e => Heap.get?_push_of_some _ e, turn_tuple a _, ⟨_, Heap.get?_push_size _ rfl, rfl, rfl⟩, fun b hb => ?_, q⟩
    have e : b = s1.heap.objs.size := by simpa using hb
    subst e
    exact I1.fpOk (Nat.le_refl _) (I1.hok.fresh (Nat.le_refl _))
  · subst ex
    obtain ⟨t, rfl⟩ := r1
    cases ha : z.cps.all (· < 128)
    · exact wpAny_pyIter_wide ha (pi_one (tk := s1.toks) I1 _ (turn_str _ z t "str_iterator" (.inr rfl)) ⟨_, Heap.get?_push_size _ rfl, rfl, rfl⟩ q)
    · exact wpAny_pyIter_ascii ha (pi_one (tk := s1.toks) I1 _ (turn_str _ z t "str_ascii_iterator" (.inl rfl)) ⟨_, Heap.get?_push_size _ rfl, rfl, rfl⟩ q)
  · subst ex
    obtain rfl : v = Value.ref d := r1
    obtain ⟨hs, hgd, hx, es, ep, vs, hdt, hsz, kv, hm⟩ := I1.frzK hd
    refine iter_keys hs hgd hx hdt (pi_one (tk := s1.toks) I1 _ (turn_keys _ hdt) ⟨_, Heap.get?_push_size _ rfl, rfl, ?_⟩ q)
    rw [hsz] <;> rfl
theorem i_old (h : QI X W tg e di) : QIK X W tg e (iOld di) := pi_imp h fun σ H Q ⟨P, R, Xn, S, h, k, kx⟩ =>
  ⟨P, _, Xn, S, h, fun G1 H1 J items e1 S1 src hR => k G1 H1 J items _ e1 S1 src.k hR, kx⟩
theorem i_g (h : QE X W e de) : QIK X W tg e (iG de) := pi_imp (pi_any h) fun σ H Q ⟨P, R, Xn, S, h, k, kx⟩ =>
  ⟨P, _, Xn, S, h, fun v G1 H1 d e1 S1 r1 hR => by
    unfold itG at hR
    split at hR
    · rename_i ds hc
      obtain ⟨a, ex, hm⟩ := celM_some hc
      subst ex
      have ev := r1.cell_inv
      subst ev
      obtain ⟨⟨xs, h1, h2⟩, _, _⟩ := S1.w.c a _ hm
      exact .inl (.inl ⟨a, rfl, ⟨xs, SqL.of h1⟩, k G1 H1 _ ds _ e1 S1 srck_cell hR⟩)
    · rename_i t kvs hc
      obtain ⟨a, ex, hm⟩ := celM_some hc
      subst ex
      have ev := r1.cell_inv
      subst ev
      obtain ⟨⟨h1, h2⟩, _, _⟩ := S1.w.c a _ hm
      exact .inr ⟨a, t.1, t.2, rfl, h1, k G1 H1 _ _ _ e1 S1 (srck_lock (o := t.1) (ks := t.2)) hR⟩
    · exact hR.elim
    · rcases hR with ⟨ds, ed, hR⟩ | ⟨kvs, ed, hR⟩
      · cases r1 with
        | @lst a xs ds h a1 => cases ed; exact .inl (.inl ⟨a, rfl, ⟨xs, SqL.of (S1.w.s _ _ h)⟩, k G1 H1 _ _ _ e1 S1 (src_list h a1).k hR⟩)
        | @tup a xs ds h a1 => cases ed; exact .inl (.inr (.inl ⟨a, rfl, ⟨xs, SqT.of (S1.w.s _ _ h)⟩, k G1 H1 _ _ _ e1 S1 (src_tup h a1).k hR⟩))
        | str z => cases ed; exact .inl (.inr (.inr ⟨z, rfl, k G1 H1 _ _ _ e1 S1 src_str.k hR⟩))
        | _ => cases ed
      · subst ed
        obtain ⟨a, o, ks, ev, h1, h2⟩ := r1.dct_inv
        subst ev
        exact .inr ⟨a, o, ks, rfl, S1.w.s _ _ h1, k G1 H1 _ _ _ e1 S1 (src_keys h1 h2).k hR⟩, kx⟩
end
/-! ### comprehensions -/
def lcGoK (ck : Mu → Prop) (tg : Tgt) (dt : DT) (de : DE) (E : List En) (R : List PyData → Mu → Prop) : List PyData → List PyData → Mu → Prop
  | [], acc => fun M => ck M ∧ R acc M
  | x :: r, acc => fun M => ck M ∧ ∃ E', tgSet tg x E = some E' ∧ dt E' (fun b M => (b = true → de E' (fun y M => acc.length < sizeLine ∧ lcGoK ck tg dt de E R r (acc ++ [y]) M) XF M) ∧ (b = false → lcGoK ck tg dt de E R r acc M)) XF M
def dLcK (di : DIK) (tg : Tgt) (dt : DT) (de : DE) (vs : List Nat) : DF := fun E R Xn => di E (fun items ck => lcGoK ck tg dt de (wipeE E vs) R items []) Xn
theorem lcGoK.ck {ck : Mu → Prop} {tg : Tgt} {dt : DT} {de : DE} {E : List En} {R : List PyData → Mu → Prop} : ∀ {items acc : List PyData} {M : Mu}, lcGoK ck tg dt de E R items acc M → ck M
  | [], _, _, h => h.1
  | _ :: _, _, _, h => h.1
section
variable {X : Cx} {W : WX}
theorem lift_lcK {K : PySem.W.Frag} {di : DIK} {tg : Tgt} {dt : DT} {de : DE} {vs : List Nat} (hv : ∀ i ∈ tg.is, i ∈ vs) {σ : L2.St} {H : Hp} {Q : VK} (h : liftF K W (dLcK di tg dt de vs) σ H Q) :
    tLc (liftIK K W di) (gT K tg) (liftT K WF dt) (liftE K WF de) vs σ H Q := by
  obtain ⟨P, R, Xn, S, h, k, kx⟩ := h
  refine ⟨P, _, Xn, S, h, fun G1 H1 J items ck e1 S1 src h1 => ?_, kx⟩
  intro D hD
  have off : Off P.bx D := S1.w.off hD
  refine ⟨fun i m H2 => ∃ (G2 : Gm) (acc : List PyData) (ys : List V), m = items.length - i ∧ i ≤ items.length ∧ Ext P.bx G1 H1 G2 H2 ∧ (P.go G2).ok K H2 σ ∧ (G2 D = none ∧ G2.M D = none) ∧ H2 D = some (.lst ys) ∧ RpAll K G2 ys acc ∧ lcGoK ck tg dt de (wipeE P.E vs) R (items.drop i) acc G2.M, ?_, ?_⟩
  · have en : Gro G1.G H1 G1.G (upd H1 D (.lst [])) := Gro.own hD
    exact ⟨items.length, G1, [], [], rfl, Nat.zero_le _, en.any, S1.pure en (same_own S1.w.s hD), ⟨S1.w.s.free hD, S1.w.m_none hD⟩, upd_same, .nil, h1⟩
  · rintro i m H2 ⟨G2, acc, ys, rfl, hi, e2, S2, ⟨gD, mD⟩, hD2, ra, go⟩
    have hck := go.ck
    by_cases hlt : i < items.length
    · refine .inr ⟨src.go i G2 H2 e2.g S2.w hck hlt, fun H3 => ∃ (G3 : Gm) (acc : List PyData) (ys : List V), Ext P.bx G1 H1 G3 H3 ∧ (P.go G3).ok K H3 σ ∧ (G3 D = none ∧ G3.M D = none) ∧ H3 D = some (.lst ys) ∧ RpAll K G3 ys acc ∧ lcGoK ck tg dt de (wipeE P.E vs) R (items.drop (i + 1)) acc G3.M, fun H3 ⟨G3, acc3, ys3, q1, q2, q3, q4, q5, q6⟩ => ⟨items.length - (i + 1), by omega, G3, acc3, ys3, rfl, hlt, q1, q2, q3, q4, q5, q6⟩, fun x H3 hy => ?_⟩
      obtain ⟨G3, d, e3, s3, hd, r3⟩ := src.yld i G2 H2 x H3 e2.g S2.w hck hlt hy
      have S3 : SR K P.bx P.G0 P.H0 ⟨G3, G2.M⟩ H3 σ P.E := S2.pure e3 s3
      have e3' : Ext P.bx G2 H2 ⟨G3, G2.M⟩ H3 := e3.any
      have hD3 := e3.s D _ hD2
      have gD3 : (⟨G3, G2.M⟩ : Gm).G D = none := e3'.g_none mD gD hD2
      rw [show items.drop i = d :: items.drop (i + 1) by rw [List.drop_eq_getElem_cons hlt]; congr 1; rw [List.getElem?_eq_getElem hlt] at hd; exact Option.some.inj hd] at go
      obtain ⟨_, E', hE, go⟩ := go
      obtain ⟨σ', S4, gq, wz⟩ := tg_ok (K := K) (S3.wipes vs) r3 hE
      refine gq _ ⟨(wz vs hv).trans wipe_wipe, ?_⟩
      refine ⟨⟨P.bx, P.G0, P.H0, ⟨G3, G2.M⟩, E'⟩, _, _, S4, go, fun b G5 H5 e5 S5 ⟨h5, h6⟩ => ?_, fun _ _ _ _ _ _ _ f => f.elim⟩
      have gD5 : ∀ {G6 : Gm} {H6 : Hp}, Ext P.bx ⟨G3, G2.M⟩ H3 G6 H6 → (G6 D = none ∧ G6.M D = none) ∧ H6 D = some (.lst ys) := fun {G6 H6} e6 => ⟨⟨e6.g_none mD gD3 hD3, e6.m_none mD hD3⟩, e6.h D _ off mD hD3⟩
      have e135 : ∀ {G6 : Gm} {H6 : Hp}, Ext P.bx ⟨G3, G2.M⟩ H3 G6 H6 → Ext P.bx G1 H1 G6 H6 := fun e6 => e2.trans (e3'.trans e6)
      cases b with
      | false =>
        obtain ⟨g1, g2⟩ := gD5 e5
        exact ⟨G5, acc, ys, e135 e5, S3.ext e5 S5.w, g1, g2, ra.up (e3.g.trans e5.g), h6 rfl⟩
      | true =>
        refine ⟨⟨P.bx, P.G0, P.H0, G5, E'⟩, _, _, S5, h5 rfl, fun y G6 H6 d6 e6 S6 r6 ⟨hz, go⟩ => ?_, fun _ _ _ _ _ _ _ f => f.elim⟩
        obtain ⟨⟨g1, m1⟩, g2⟩ := gD5 (e5.trans e6)
        have ra6 : RpAll K G6 ys acc := ra.up (e3.g.trans (e5.g.trans e6.g))
        have S7 : SR K P.bx P.G0 P.H0 G6 H6 σ P.E := S3.ext (e5.trans e6) S6.w
        refine ⟨ys, g2, by rw [ra6.length]; exact hz, G6, acc ++ [d6], ys ++ [y], ?_, ?_, ⟨g1, m1⟩, upd_same, ra6.app (.cons r6 .nil), go⟩
        · have e := e135 (e5.trans e6)
          exact ⟨e.g, fun a o n m q => by rw [upd_ne (ne_of_none q hD)]; exact e.h a o n m q, e.n, fun a o q => by
            rw [upd_ne (ne_of_none q hD)]; exact e.al a o q, e.m⟩
        · exact S7.poke (S1.x.none_of hD) g1 m1 off fun j es q hσ => S1.no_own hD j es q hσ
    · have ei : i = items.length := by omega
      subst ei
      rw [List.drop_length] at go
      exact .inl ⟨src.stop _ G2 H2 e2.g S2.w hck (Nat.le_refl _), k D ys G2 H2 acc (e1.trans e2) S2 (e1.none_of hD) gD mD hD2 ra go.2⟩
theorem f_lcK {elt tgE iter : Expr} {ifs : List Expr} {scope : Scope} {own : List (Str × Nat)} {pos : Pos} {di : DIK} {tg : Tgt} {dt : DT} {de : DE} (hc : X.calm = true) (hN : X.N.Nodup) (hi : QIK X W tgE iter di) (ok : blkC X.N X.env.scope scope own = true) (hv : ∀ i ∈ tg.is, i ∈ own.map (·.2))
    (hg : ∀ (s : Shared) (H : Hp) (C : Addr) (cl : List (Str × Addr)) (fp : List Addr), PG (X.blk s H scope (compEnvC scope cl C X.env) fp) tgE (gT X.K tg)) (ht : ∀ (s : Shared) (H : Hp) (C : Addr) (cl : List (Str × Addr)) (fp : List Addr), PTs (X.blk s H scope (compEnvC scope cl C X.env) fp) ifs (liftT X.K WF dt))
    (he : ∀ (s : Shared) (H : Hp) (C : Addr) (cl : List (Str × Addr)) (fp : List Addr), QE (X.blk s H scope (compEnvC scope cl C X.env) fp) WF elt de) (hs : ∀ x, foldedSetIterable iter X.env x = pure x := by intro _; rfl) :
    QF X W (.ListComp elt [⟨tgE, iter, ifs, 0⟩] scope pos) (dLcK di tg dt de (own.map (·.2))) := pe_imp (pe_lc hc hN hi (blkOk_by ok) hg ht he hs) fun _ _ _ => lift_lcK hv
theorem s_setLcOK {elt tgE iter : Expr} {ifs : List Expr} {scope : Scope} {own : List (Str × Nat)} {pos spos py : Pos} {di : DIK} {tg : Tgt} {dt : DT} {de : DE} {i : Nat} {y : Str} {df : DF} (hc : X.calm = true) (hN : X.N.Nodup) (hy : X.N[i]? = some y) (hyl : X.env.scope.names.lookup y = some .local) (hsw : swapsWith (.ListComp elt [⟨tgE, iter, ifs, 0⟩] scope pos) (some (.Name y py)) spos.line X.env = pure true)
    (hb : ∀ σ H Q, liftF X.K W df σ H Q → liftF X.K W (dLcK di tg dt de (own.map (·.2))) σ H Q) (hi : QIK X W tgE iter di) (ok : blkC X.N X.env.scope scope own = true) (hv : ∀ i ∈ tg.is, i ∈ own.map (·.2))
    (hg : ∀ (s : Shared) (H : Hp) (C : Addr) (cl : List (Str × Addr)) (fp : List Addr), PG (X.blk s H scope (compEnvC scope cl C X.env) fp) tgE (gT X.K tg)) (ht : ∀ (s : Shared) (H : Hp) (C : Addr) (cl : List (Str × Addr)) (fp : List Addr), PTs (X.blk s H scope (compEnvC scope cl C X.env) fp) ifs (liftT X.K WF dt))
    (he : ∀ (s : Shared) (H : Hp) (C : Addr) (cl : List (Str × Addr)) (fp : List Addr), QE (X.blk s H scope (compEnvC scope cl C X.env) fp) WF elt de) (hs : ∀ x, foldedSetIterable iter X.env x = pure x := by intro _; rfl) :
    QS X W (.Assign [.Name y py] (.ListComp elt [⟨tgE, iter, ifs, 0⟩] scope pos) spos) (dSetO i df) :=
  ps_imp (ps_setLc hc hN hy hyl hsw hi (blkOk_by ok) hg ht he hs) fun D σ H ⟨P, R, S, h, L⟩ => lift_lcK (K := X.K) hv (hb _ _ _ ⟨P, _, _, S, h, fun p xs G1 H1 ds e1 S1 hp gp mp hx rr h1 => L.nx G1 H1 _ _ (S1.nameOwn (S.x.none_of hp) gp mp hx rr (S.w.off hp) (fun j es q hσ => S.no_own hp j es q hσ)) h1, L.err⟩)
theorem s_setLcK {elt tgE iter : Expr} {ifs : List Expr} {scope : Scope} {own : List (Str × Nat)} {pos spos py : Pos} {di : DIK} {tg : Tgt} {dt : DT} {de : DE} {i : Nat} {y : Str} {df : DF} (hc : X.calm = true) (hN : X.N.Nodup) (hy : X.N[i]? = some y) (hyl : X.env.scope.names.lookup y = some .local) (hsw : swapsWith (.ListComp elt [⟨tgE, iter, ifs, 0⟩] scope pos) (some (.Name y py)) spos.line X.env = pure true)
    (hb : ∀ σ H Q, liftF X.K W df σ H Q → liftF X.K W (dLcK di tg dt de (own.map (·.2))) σ H Q) (hi : QIK X W tgE iter di) (ok : blkC X.N X.env.scope scope own = true) (hv : ∀ i ∈ tg.is, i ∈ own.map (·.2))
    (hg : ∀ (s : Shared) (H : Hp) (C : Addr) (cl : List (Str × Addr)) (fp : List Addr), PG (X.blk s H scope (compEnvC scope cl C X.env) fp) tgE (gT X.K tg)) (ht : ∀ (s : Shared) (H : Hp) (C : Addr) (cl : List (Str × Addr)) (fp : List Addr), PTs (X.blk s H scope (compEnvC scope cl C X.env) fp) ifs (liftT X.K WF dt))
    (he : ∀ (s : Shared) (H : Hp) (C : Addr) (cl : List (Str × Addr)) (fp : List Addr), QE (X.blk s H scope (compEnvC scope cl C X.env) fp) WF elt de) (hs : ∀ x, foldedSetIterable iter X.env x = pure x := by intro _; rfl) :
    QS X W (.Assign [.Name y py] (.ListComp elt [⟨tgE, iter, ifs, 0⟩] scope pos) spos) (dSet i (dFz df)) :=
  ps_imp (ps_setLc hc hN hy hyl hsw hi (blkOk_by ok) hg ht he hs) fun D σ H ⟨P, R, S, h, L⟩ => lift_lcK (K := X.K) hv (hb _ _ _ ⟨P, _, _, S, h, fun p xs G1 H1 ds e1 S1 hp gp mp hx rr h1 => by
    obtain ⟨e2, S2⟩ := S1.freeze e1 S hp gp mp hx
    have gg : Same G1.G (upd G1.G p (.lst xs)) := fun a u q => by rw [upd_ne (ne_of_none q gp)]; exact q
    exact L.nx _ _ _ _ (S2.setDat (.lst upd_same (rr.up gg))) h1, L.err⟩)
/-- .. as a cell -/
theorem s_setLcC {elt tgE iter : Expr} {ifs : List Expr} {scope : Scope} {own : List (Str × Nat)} {pos spos py : Pos} {di : DIK} {tg : Tgt} {dt : DT} {de : DE} {i : Nat} {y : Str} {df : DF} (hc : X.calm = true) (hN : X.N.Nodup) (hy : X.N[i]? = some y) (hyl : X.env.scope.names.lookup y = some .local) (hsw : swapsWith (.ListComp elt [⟨tgE, iter, ifs, 0⟩] scope pos) (some (.Name y py)) spos.line X.env = pure true)
    (hb : ∀ σ H Q, liftF X.K W df σ H Q → liftF X.K W (dLcK di tg dt de (own.map (·.2))) σ H Q) (hi : QIK X W tgE iter di) (ok : blkC X.N X.env.scope scope own = true) (hv : ∀ i ∈ tg.is, i ∈ own.map (·.2))
    (hg : ∀ (s : Shared) (H : Hp) (C : Addr) (cl : List (Str × Addr)) (fp : List Addr), PG (X.blk s H scope (compEnvC scope cl C X.env) fp) tgE (gT X.K tg)) (ht : ∀ (s : Shared) (H : Hp) (C : Addr) (cl : List (Str × Addr)) (fp : List Addr), PTs (X.blk s H scope (compEnvC scope cl C X.env) fp) ifs (liftT X.K WF dt))
    (he : ∀ (s : Shared) (H : Hp) (C : Addr) (cl : List (Str × Addr)) (fp : List Addr), QE (X.blk s H scope (compEnvC scope cl C X.env) fp) WF elt de) (hs : ∀ x, foldedSetIterable iter X.env x = pure x := by intro _; rfl) :
    QS X W (.Assign [.Name y py] (.ListComp elt [⟨tgE, iter, ifs, 0⟩] scope pos) spos) (dSet i (dCel df)) :=
  ps_imp (ps_setLc hc hN hy hyl hsw hi (blkOk_by ok) hg ht he hs) fun D σ H ⟨P, R, S, h, L⟩ => lift_lcK (K := X.K) hv (hb _ _ _ ⟨P, _, _, S, h, fun p xs G1 H1 ds e1 S1 hp gp mp hx rr h1 =>
    L.nx ⟨G1.G, G1.M.set p (.lst ds)⟩ _ _ _ ((S1.newCell (ob := .lst ds) (S.x.none_of hp) gp mp (S.w.off hp) hx ⟨xs, hx, rr⟩ fun j es q hσ => S.no_own hp j es q hσ).setDat .of_cel) (h1 p mp), L.err⟩)
end
/-! ### a for -/
def forGoK (ck : Mu → Prop) (t : Tgt) (body : DS) (R : DEnds) : List PyData → List En → Mu → Prop
  | [], E, M => ck M ∧ R.nx E M
  | x :: r, E, M => ck M ∧ ∃ E', tgSet t x E = some E' ∧ body { R with nx := forGoK ck t body R r, ct := forGoK ck t body R r, bk := R.nx } E' M
theorem forGoK.ck {ck : Mu → Prop} {t : Tgt} {body : DS} {R : DEnds} : ∀ {items : List PyData} {E : List En} {M : Mu}, forGoK ck t body R items E M → ck M
  | [], _, _, h => h.1
  | _ :: _, _, _, h => h.1
def dForK (di : DIK) (t : Tgt) (body : DS) : DS := fun R E => di E (fun items ck => forGoK ck t body R items E) (fun x => R.ex x E)
section
variable {X : Cx} {W : WX} {pos : Pos} {da : DS}
theorem s_forK {tg iter : Expr} {body : List Stmt} {di : DIK} {t : Tgt} (hp : PassesOwn (model X.prog X.w) X.A X.env X.xe) (hc : X.calm = true) (hi : QIK X W tg iter di) (hg : PG X tg (gT X.K t)) (hb : QSs X W body da) (hs : ∀ x, foldedSetIterable iter X.env x = pure x := by intro _; rfl) :
    QS X W (.For tg iter body [] pos) (dForK di t da) := ps_imp (ps_for hp hc hi hg hb hs) fun D σ H ⟨P, R, S, h, L⟩ => by
  refine ⟨P, _, _, S, h, fun G1 H1 J items ck e1 S1 src h1 => ?_, L.err⟩
  refine ⟨fun i m σ2 H2 => ∃ (G2 : Gm) (E2 : List En), m = items.length - i ∧ i ≤ items.length ∧ Same G1.G G2.G ∧ SR X.K P.bx P.G0 P.H0 G2 H2 σ2 E2 ∧ forGoK ck t da R (items.drop i) E2 G2.M, ⟨items.length, G1, P.E, rfl, Nat.zero_le _, Same.refl _, S1, h1⟩, ?_⟩
  rintro i m σ2 H2 ⟨G2, E2, rfl, hi, g2, S2, go⟩
  have hck := go.ck
  by_cases hlt : i < items.length
  · refine .inr ⟨src.go i G2 H2 g2 S2.w hck hlt, fun σ3 H3 => ∃ (G3 : Gm) (E3 : List En), Same G1.G G3.G ∧ SR X.K P.bx P.G0 P.H0 G3 H3 σ3 E3 ∧ forGoK ck t da R (items.drop (i + 1)) E3 G3.M, fun σ3 H3 ⟨G3, E3, q1, q2, q3⟩ => ⟨items.length - (i + 1), by omega, G3, E3, rfl, hlt, q1, q2, q3⟩, fun x H3 hy => ?_⟩
    obtain ⟨G3, d, e3, s3, hd, r3⟩ := src.yld i G2 H2 x H3 g2 S2.w hck hlt hy
    have S3 := S2.pure e3 s3
    rw [show items.drop i = d :: items.drop (i + 1) by rw [List.drop_eq_getElem_cons hlt]; congr 1; rw [List.getElem?_eq_getElem hlt] at hd; exact Option.some.inj hd] at go
    obtain ⟨_, E', hE, go⟩ := go
    obtain ⟨σ', S4, gq, _⟩ := tg_ok (K := X.K) S3 r3 hE
    have gg : Same G1.G G3 := g2.trans e3.g
    refine gq _ ⟨⟨P.bx, ⟨G1.G, P.G0.M⟩, P.H0, ⟨G3, G2.M⟩, E'⟩, _, S4.re0 S1.x.g gg, go, ?_⟩
    exact ⟨fun G H σ E s h => ⟨G, E, s.x.g, s.up0 S1.x, h⟩, fun v G H d e w r h => L.rt v G H d (S1.x.up0 e) w r h, fun p xs G H ds e w hp gp mp hx rr h => L.ro p xs G H ds (S1.x.up0 e) w hp gp mp hx rr h, fun G H σ E s h => L.nx G H σ E (s.up0 S1.x) h, fun G H σ E s h => ⟨G, E, s.x.g, s.up0 S1.x, h⟩, fun x cls dd G H σ E s er h => L.ex x cls dd G H σ E (s.up0 S1.x) er h⟩
  · have ei : i = items.length := by omega
    subst ei
    rw [List.drop_length] at go
    exact .inl ⟨src.stop _ G2 H2 g2 S2.w hck (Nat.le_refl _), L.nx G2 H2 σ2 E2 S2 go.2⟩
end
/-! simp forms, invariants -/
section
variable {M : Mu} {E : List En} {tg : Tgt} {dt : DT} {de : DE} {di : DI} {dk : DIK} {vs : List Nat} {R : List PyData → (Mu → Prop) → Mu → Prop} {Q : List PyData → (Mu → Prop) → Prop} {Xn : Er → Mu → Prop} {RF : List PyData → Mu → Prop} {D : DEnds} {sa : DS} {ds : List PyData} {kvs : List (Key × PyData)} {a : Addr}
@[simp] theorem iOld_s : iOld di E R Xn = di E (fun items => R items fun _ => True) Xn := rfl
@[simp] theorem iG_s : iG de E R Xn = de E (fun d M => itG M d fun ds ck => R ds ck M) Xn := rfl
@[simp] theorem dLcK_s : dLcK dk tg dt de vs E RF Xn = dk E (fun items ck => lcGoK ck tg dt de (wipeE E vs) RF items []) Xn := rfl
@[simp] theorem dForK_s : dForK dk tg sa D E = dk E (fun items ck => forGoK ck tg sa D items E) (fun x => D.ex x E) := rfl
theorem seqD_d : seqD (dctD kvs) = none := rfl
@[simp] theorem itG_l : itG M (.list ds) Q = Q ds fun _ => True := by
  apply propext
  constructor
  · rintro (⟨_, e, h⟩ | ⟨_, e, _⟩)
    · cases e; exact h
    · cases e
  · exact fun h => .inl ⟨ds, rfl, h⟩
@[simp] theorem itG_t : itG M (.tuple ds) Q = Q ds fun _ => True := by
  apply propext
  constructor
  · rintro (⟨_, e, h⟩ | ⟨_, e, _⟩)
    · cases e; exact h
    · cases e
  · exact fun h => .inl ⟨ds, rfl, h⟩
@[simp] theorem itG_s {z : Str} : itG M (.str z) Q = Q (signsD z) fun _ => True := by
  apply propext
  constructor
  · rintro (⟨_, e, h⟩ | ⟨_, e, _⟩)
    · cases e; exact h
    · cases e
  · exact fun h => .inl ⟨_, rfl, h⟩
@[simp] theorem itG_d : itG M (dctD kvs) Q = Q (kvs.map fun p => kD p.1) fun _ => True := by
  unfold itG
  rw [celM_d]
  apply propext
  constructor
  · rintro (⟨_, e, h⟩ | ⟨k2, e, h⟩)
    · rw [seqD_d] at e; cases e
    · rw [dctD_inj e]; exact h
  · exact fun h => .inr ⟨kvs, rfl, h⟩
theorem itG_c (h : M a = some (.lst ds)) : itG M (cellD a) Q = Q ds fun M' => M' a = some (.lst ds) := by
  unfold itG
  rw [celM_c, h]
  rfl
theorem itG_k {t : Obj × List (Key × V)} (h : M a = some (.dct (some t) kvs)) : itG M (cellD a) Q = Q (kvs.map fun p => kD p.1) fun M' => M' a = some (.dct (some t) kvs) := by
  unfold itG
  rw [celM_c, h]
  rfl
end
theorem lck_inv {ck : Mu → Prop} {tg : Tgt} {dt : DT} {de : DE} {E : List En} {R : List PyData → Mu → Prop} (Inv : List PyData → List PyData → Mu → Prop) (hck : ∀ r acc M, Inv r acc M → ck M) (hnil : ∀ acc M, Inv [] acc M → R acc M)
    (hcons : ∀ x r acc M, Inv (x :: r) acc M → ∃ E', tgSet tg x E = some E' ∧ ∀ N : List PyData → Mu → Prop, (∀ acc' M, Inv r acc' M → N acc' M) → dt E' (fun b M => (b = true → de E' (fun y M => acc.length < sizeLine ∧ N (acc ++ [y]) M) XF M) ∧ (b = false → N acc M)) XF M) :
    ∀ (items acc : List PyData) (M : Mu), Inv items acc M → lcGoK ck tg dt de E R items acc M
  | [], acc, M, h => ⟨hck _ _ _ h, hnil acc M h⟩
  | x :: r, acc, M, h => by
    obtain ⟨E', h1, h2⟩ := hcons x r acc M h
    exact ⟨hck _ _ _ h, E', h1, h2 _ fun acc' M h => lck_inv Inv hck hnil hcons r acc' M h⟩
/-- .. that leaves the cells -/
theorem lck_go {α : Type} (gx : α → PyData) (p : α → Bool) (f : α → PyData) {ck : Mu → Prop} {tg : Tgt} {dt : DT} {de : DE} {E : List En} {M : Mu} {R : List PyData → Mu → Prop} (hck : ck M) : ∀ (xs : List α) (acc : List PyData), acc.length + xs.length ≤ sizeLine →
    (∀ x ∈ xs, ∃ E', tgSet tg (gx x) E = some E' ∧ (∀ Q : Bool → Mu → Prop, Q (p x) M → dt E' Q XF M) ∧ (p x = true → ∀ Q : PyData → Mu → Prop, Q (f x) M → de E' Q XF M)) →
    R (acc ++ (xs.filter p).map f) M → lcGoK ck tg dt de E R (xs.map gx) acc M
  | [], acc, _, _, hR => by
    refine ⟨hck, ?_⟩
    simpa using hR
  | x :: xs, acc, hl, h, hR => by
    obtain ⟨E', h1, h2, h3⟩ := h x (by simp)
    have hl' : acc.length + xs.length + 1 ≤ sizeLine := by simpa [Nat.add_assoc] using hl
    have rest : ∀ y ∈ xs, _ := fun y hy => h y (by simp [hy])
    refine ⟨hck, E', h1, h2 _ ⟨fun hp => h3 hp _ ⟨by omega, ?_⟩, fun hp => ?_⟩⟩
    · refine lck_go gx p f hck xs _ (by simp; omega) rest ?_
      simpa [List.filter_cons, hp, List.append_assoc] using hR
    · refine lck_go gx p f hck xs _ (by omega) rest ?_
      simpa [List.filter_cons, hp] using hR
theorem lck_map {α : Type} (gx : α → PyData) (f : α → PyData) {ck : Mu → Prop} {tg : Tgt} {de : DE} {E : List En} {M : Mu} {R : List PyData → Mu → Prop} (xs : List α) (hck : ck M) (hl : xs.length ≤ sizeLine)
    (h : ∀ x ∈ xs, ∃ E', tgSet tg (gx x) E = some E' ∧ ∀ Q : PyData → Mu → Prop, Q (f x) M → de E' Q XF M) (hR : R (xs.map f) M) : lcGoK ck tg dYes de E R (xs.map gx) [] M :=
  lck_go gx (fun _ => true) f hck xs [] (by simpa using hl) (fun x hx => by
    obtain ⟨E', h1, h2⟩ := h x hx
    exact ⟨E', h1, fun Q q => q, fun _ => h2⟩) (by rw [List.filter_eq_self.mpr (by simp)]; exact hR)
theorem lck_filter {α : Type} (gx : α → PyData) (p : α → Bool) (f : α → PyData) {ck : Mu → Prop} {tg : Tgt} {dt : DT} {de : DE} {E : List En} {M : Mu} {R : List PyData → Mu → Prop} (xs : List α) (hck : ck M) (hl : xs.length ≤ sizeLine)
    (h : ∀ x ∈ xs, ∃ E', tgSet tg (gx x) E = some E' ∧ (∀ Q : Bool → Mu → Prop, Q (p x) M → dt E' Q XF M) ∧ (p x = true → ∀ Q : PyData → Mu → Prop, Q (f x) M → de E' Q XF M)) (hR : R ((xs.filter p).map f) M) : lcGoK ck tg dt de E R (xs.map gx) [] M :=
  lck_go gx p f hck xs [] (by simpa using hl) h (by simpa using hR)
theorem fork_inv {ck : Mu → Prop} {t : Tgt} {body : DS} {R : DEnds} (Inv : List PyData → List En → Mu → Prop) (hck : ∀ r E M, Inv r E M → ck M) (hnil : ∀ E M, Inv [] E M → R.nx E M)
    (hcons : ∀ x r E M, Inv (x :: r) E M → ∃ E', tgSet t x E = some E' ∧ ∀ N : List En → Mu → Prop, (∀ E M, Inv r E M → N E M) → body { R with nx := N, ct := N, bk := R.nx } E' M) :
    ∀ (items : List PyData) (E : List En) (M : Mu), Inv items E M → forGoK ck t body R items E M
  | [], E, M, h => ⟨hck _ _ _ h, hnil E M h⟩
  | x :: r, E, M, h => by
    obtain ⟨E', h1, h2⟩ := hcons x r E M h
    exact ⟨hck _ _ _ h, E', h1, h2 _ fun E M h => fork_inv Inv hck hnil hcons r E M h⟩
/-- a comprehension that draws -/
theorem lck_draw {α β : Type} (gx : α → PyData) (en : β → PyData) (Ok : β → Prop) {ck : Mu → Prop} {tg : Tgt} {de : DE} {E : List En} {M : Mu} {R : List PyData → Mu → Prop} (xs : List α) (hck : ck M) (hl : xs.length ≤ sizeLine)
    (h : ∀ x ∈ xs, ∃ E', tgSet tg (gx x) E = some E' ∧ ∀ Q : PyData → Mu → Prop, (∀ y, Ok y → Q (en y) M) → de E' Q XF M) (hR : ∀ ys : List β, ys.length = xs.length → (∀ y ∈ ys, Ok y) → R (ys.map en) M) : lcGoK ck tg dYes de E R (xs.map gx) [] M := by
  refine lck_inv (fun items acc M' => M' = M ∧ ∃ (r : List α) (ys : List β), items = r.map gx ∧ acc = ys.map en ∧ ys.length + r.length = xs.length ∧ (∀ x ∈ r, x ∈ xs) ∧ ∀ y ∈ ys, Ok y) (fun _ _ _ ⟨e, _⟩ => by rw [e]; exact hck) ?_ ?_ _ _ _ ⟨rfl, xs, [], rfl, rfl, by simp, fun _ h => h, by simp⟩
  · rintro acc M' ⟨rfl, r, ys, e, rfl, hn, _, hy⟩
    cases r with
    | cons => simp at e
    | nil => exact hR ys (by simpa using hn) hy
  · rintro x r acc M' ⟨rfl, r', ys, e, rfl, hn, hs, hy⟩
    cases r' with
    | nil => simp at e
    | cons z r' =>
      simp at e
      obtain ⟨rfl, rfl⟩ := e
      simp at hn
      obtain ⟨E', h1, h2⟩ := h z (hs z (by simp))
      refine ⟨E', h1, fun N hN => ?_⟩
      refine ⟨fun _ => h2 _ fun y hy2 => ⟨by simp; omega, hN _ _ ⟨rfl, r', ys ++ [y], rfl, by simp, by simp; omega, fun x hx => hs x (by simp [hx]), fun w hw => ?_⟩⟩, fun q => by cases q⟩
      rcases List.mem_append.mp hw with q | q
      · exact hy w q
      · have : w = y := by simpa using q
        rw [this]; exact hy2
end Wx

namespace Wx
open PySem PySem.Spec PyProof.Rows L2

/-! ### a pure def called while the cells' lists lie frozen -/
mutual
inductive Rsv (M : Mu) : PyData → PyData → Prop
  | same (d : PyData) : Rsv M d d
  | cell {a : Addr} {ds es : List PyData} : M a = some (.lst ds) → RsvAll M ds es → Rsv M (cellD a) (.list es)
  | lst {ds es : List PyData} : RsvAll M ds es → Rsv M (.list ds) (.list es)
  | tup {ds es : List PyData} : RsvAll M ds es → Rsv M (.tuple ds) (.tuple es)
inductive RsvAll (M : Mu) : List PyData → List PyData → Prop
  | nil : RsvAll M [] []
  | cons {d e : PyData} {ds es : List PyData} : Rsv M d e → RsvAll M ds es → RsvAll M (d :: ds) (e :: es)
end
theorem RsvAll.same {M : Mu} : ∀ ds : List PyData, RsvAll M ds ds
  | [] => .nil
  | d :: ds => .cons (.same d) (RsvAll.same ds)
theorem RsvAll.map {M : Mu} {α : Type} {f g : α → PyData} : ∀ {xs : List α}, (∀ x ∈ xs, Rsv M (f x) (g x)) → RsvAll M (xs.map f) (xs.map g)
  | [], _ => .nil
  | x :: xs, h => .cons (h x (by simp)) (RsvAll.map fun y hy => h y (by simp [hy]))
/-- the heap in which the cells' lists are frozen -/
def frzL (G : Gm) (H : Hp) : Hp := fun a => match G.M a with
  | some (.lst _) => H a
  | _ => G.G a
theorem frzL_same {K : PySem.W.Frag} {bx : Option Bx} {G : Gm} {H : Hp} (wo : Wo K bx G H) : Same G.G (frzL G H) ∧ Same (frzL G H) H := by
  refine ⟨fun a o q => ?_, fun a o q => ?_⟩
  · show (match G.M a with | some (.lst _) => H a | _ => G.G a) = some o
    split
    · exact wo.s a o q
    · exact q
  · have q : (match G.M a with | some (.lst _) => H a | _ => G.G a) = some o := q
    split at q
    · exact q
    · exact wo.s a o q
mutual
theorem rsv_rp {K : PySem.W.Frag} {bx : Option Bx} {G : Gm} {H : Hp} (wo : Wo K bx G H) : ∀ {d e : PyData} {v : V}, Rsv G.M d e → Rp K G.G v d → Rp K (frzL G H) v e
  | _, _, _, .same d, r => r.up (frzL_same wo).1
  | _, _, _, .cell (a := a) hm h, r => by
    have ev := r.cell_inv
    subst ev
    obtain ⟨⟨xs, h1, h2⟩, _, _⟩ := wo.c a _ hm
    refine .lst ?_ (rsvs_rp wo h h2)
    show (match G.M a with | some (.lst _) => H a | _ => G.G a) = _
    rw [hm]; exact h1
  | _, _, _, .lst h, .lst h1 h2 => .lst ((frzL_same wo).1 _ _ h1) (rsvs_rp wo h h2)
  | _, _, _, .tup h, .tup h1 h2 => .tup ((frzL_same wo).1 _ _ h1) (rsvs_rp wo h h2)
theorem rsvs_rp {K : PySem.W.Frag} {bx : Option Bx} {G : Gm} {H : Hp} (wo : Wo K bx G H) : ∀ {ds es : List PyData} {vs : List V}, RsvAll G.M ds es → RpAll K G.G vs ds → RpAll K (frzL G H) vs es
  | _, _, _, .nil, .nil => .nil
  | _, _, _, .cons r t, .cons r1 t1 => .cons (rsv_rp wo r r1) (rsvs_rp wo t t1)
end
/-! what holds no list, no dict, no instance is told by the frozen tuples alone -/
mutual
theorem rp_cutM {K : PySem.W.Frag} {G G' : Hp} (h : ∀ a xs, G a = some (.tup xs) → G' a = some (.tup xs)) : ∀ {d : PyData} {v : V}, noL d = true → Rp K G v d → Rp K G' v d
  | _, _, _, .non => .non
  | _, _, _, .bl b => .bl b
  | _, _, _, .int i => .int i
  | _, _, _, .str x => .str x
  | _, _, n, .lst _ _ => by rw [noL] at n; cases n
  | _, _, n, .tup hs ha => .tup (h _ _ hs) (rps_cutM h (by rw [noL] at n; exact n) ha)
  | _, _, n, .dct _ _ => by rw [noL] at n; exact (isCel_dct n).elim
  | _, _, n, .ins _ _ => by rw [noL, isCel] at n; cases n; intro a h; cases h
  | _, _, _, .cel a => .cel a
  | _, _, n, .exn _ => by rw [noL, isCel] at n; cases n; intro a h; cases h
  | _, _, n, .exb _ _ _ => by rw [noL, isCel] at n; cases n; intro a h; cases h
theorem rps_cutM {K : PySem.W.Frag} {G G' : Hp} (h : ∀ a xs, G a = some (.tup xs) → G' a = some (.tup xs)) : ∀ {ds : List PyData} {vs : List V}, noLs ds = true → RpAll K G vs ds → RpAll K G' vs ds
  | _, _, _, .nil => .nil
  | _, _, n, .cons h1 h2 => .cons (rp_cutM h (by rw [noLs, Bool.and_eq_true] at n; exact n.1) h1) (rps_cutM h (by rw [noLs, Bool.and_eq_true] at n; exact n.2) h2)
end
/-- behind what was done while the cells' lists lay frozen -/
theorem back_cells {K : PySem.W.Frag} {bx : Option Bx} {G : Gm} {H H' G' : Hp} (wo : Wo K bx G H) (e : Ext bx ⟨frzL G H, Mu.no⟩ H ⟨G', Mu.no⟩ H') (w : Wo K bx ⟨G', Mu.no⟩ H') :
    ∃ G1 : Hp, Ext bx G H ⟨G1, G.M⟩ H' ∧ Wo K bx ⟨G1, G.M⟩ H' ∧ ∀ a xs, G' a = some (.tup xs) → G1 a = some (.tup xs) := by
  let G1 : Hp := fun a => match G.M a with
    | some _ => none
    | none => G' a
  have cl : ∀ a ob, G.M a = some ob → G1 a = none := fun a ob h => by
    show (match G.M a with | some _ => none | none => G' a) = none
    rw [h]
  have cn : ∀ a, G.M a = none → G1 a = G' a := fun a h => by
    show (match G.M a with | some _ => none | none => G' a) = G' a
    rw [h]
  have gg : Same G.G G1 := fun a o q => by
    have hm : G.M a = none := by
      cases h : G.M a with
      | none => rfl
      | some ob =>
        obtain ⟨_, c2, _⟩ := wo.c a ob h
        have c2 : G.G a = none := c2
        rw [c2] at q; cases q
    rw [cn a hm]
    exact e.g a o ((frzL_same wo).1 a o q)
  have eh : ∀ a o, Off bx a → H a = some o → H' a = some o := fun a o n q => e.h a o n rfl q
  refine ⟨G1, ⟨gg, fun a o n _ q => eh a o n q, fun a o q => ?_, e.al, fun a ob q => .inl ⟨ob, q⟩⟩, ⟨fun a o q => ?_, fun z hz => ?_, fun a ob q => ?_⟩, fun a xs q => ?_⟩
  · have q : G1 a = some o := q
    cases h : G.M a with
    | some ob => rw [cl a ob h] at q; cases q
    | none =>
      rw [cn a h] at q
      rcases e.n a o q with y | y | ⟨_, y⟩
      · have y : frzL G H a = some o := y
        unfold frzL at y
        rw [h] at y
        exact .inl y
      · exact .inr (.inl y)
      · exact absurd (show (none : Option Ob) = some _ from y) (by simp)
  · have q : G1 a = some o := q
    cases h : G.M a with
    | some ob => rw [cl a ob h] at q; cases q
    | none => rw [cn a h] at q; exact w.s a o q
  · obtain ⟨b1, ns, y1, y2, y3, y4, y5, y6, y7⟩ := w.b z hz
    obtain ⟨bg, _, _, _, _, _, _, y6', _⟩ := wo.b z hz
    have hzb : G.M z.b = none := by
      cases h : G.M z.b with
      | none => rfl
      | some ob => exact absurd rfl ((wo.c z.b ob h).2.2 z hz)
    refine ⟨by show G1 z.b = none; rw [cn _ hzb]; exact b1, ns, y1, y2, y3, y4, y5, ?_, y7⟩
    have hza : G.M z.a = none := by
      cases h : G.M z.a with
      | none => rfl
      | some ob =>
        obtain ⟨_, c2, _⟩ := wo.c z.a ob h
        cases y6' with
        | lst h1 _ => have c2 : G.G z.a = none := c2; rw [c2] at h1; cases h1
    cases y6 with
    | lst h ha =>
      have e3 := ha.ints
      subst e3
      exact .lst (by show G1 z.a = _; rw [cn _ hza]; exact h) (rps_ints _)
  · obtain ⟨c1, c2, c3⟩ := wo.c a ob q
    obtain ⟨o, ho⟩ := c1.there
    exact ⟨c1.up gg ((eh a o c3 ho).trans ho.symm), cl a ob q, c3⟩
  · cases h : G.M a with
    | none => rw [cn a h]; exact q
    | some ob =>
      exfalso
      obtain ⟨c1, c2, c3⟩ := wo.c a ob h
      obtain ⟨o, ho⟩ := c1.there
      have h1 := w.s a _ q
      have h2 := eh a o c3 ho
      have h1 : H' a = some (.tup xs) := h1
      rw [h1] at h2
      cases h2
      match ob, c1 with
      | .lst _, ⟨_, h3, _⟩ => rw [ho] at h3; cases h3
      | .dct none _, ⟨_, h3, _⟩ => rw [ho] at h3; cases h3
      | .dct (some _) _, ⟨h3, _⟩ => rw [ho] at h3; cases h3
      | .ins _ _, ⟨_, _, h3, _⟩ => rw [ho] at h3; cases h3
def RsvE (M : Mu) : En → En → Prop
  | .dat d, .dat e => Rsv M d e
  | .box, .box => True
  | .raw u, .raw v => u = v
  | .un, .un => True
  | _, _ => False
abbrev RsvA (M : Mu) : List En → List En → Prop := Paired (RsvE M)
theorem rsvA_ok {K : PySem.W.Frag} {bx : Option Bx} {G : Gm} {H : Hp} (wo : Wo K bx G H) : ∀ {as bs : List En} {vs : List V}, RsvA G.M as bs → ArgsOk K bx G.G vs as → ArgsOk K bx (frzL G H) vs bs
  | _, _, _, .nil, .nil => .nil
  | a :: _, b :: _, _, .cons h t, .cons r r2 => by
    refine .cons ?_ (rsvA_ok wo t r2)
    cases a <;> cases b <;> first | exact h.elim | skip
    · trivial
    · exact rsv_rp wo h r
    · exact r
    · have h : _ = _ := h
      subst h
      exact r
/-- f(..), f pure, the cells' lists lent as frozen ones; what comes back holds none -/
def dCallB (sp : DSp) (da : DA) : DE := fun E R Xn => da E (fun as M => ∃ bs, RsvA M as bs ∧ sp bs (fun d => noL d = true ∧ R d M) (fun _ => False)) Xn
section
variable {X : Cx} {W : WX} {pos p : Pos} {e : Expr} {es : List Expr} {da : DA} {x : Str} {k : Nat} {ps : List Str} {sp : DSp} {CX : CXT}
theorem lift_callB {K : PySem.W.Frag} {σ : L2.St} {H : Hp} {Q : VK} (h : liftE K W (dCallB sp da) σ H Q) : tCall (spF K sp) [] E0 (liftA K W da) σ H Q := by
  obtain ⟨P, R, Xn, S, h, k, kx⟩ := h
  refine ⟨P, _, Xn, S, h, fun vs G1 H1 as e1 S1 r1 ⟨bs, hb, h1⟩ => ?_, kx⟩
  show spF K sp (vs ++ []) H1 Q E0
  rw [List.append_nil]
  have ws : Wo K P.bx ⟨frzL G1 H1, Mu.no⟩ H1 := by
    refine ⟨(frzL_same S1.w).2, fun z hz => ?_, fun a ob q => absurd (show (none : Option Ob) = some _ from q) (by simp)⟩
    obtain ⟨b1, b2⟩ := S1.w.b z hz
    refine ⟨?_, b2.up (frzL_same S1.w).1 rfl⟩
    show (match G1.M z.b with | some (.lst _) => H1 z.b | _ => G1.G z.b) = none
    cases h : G1.M z.b with
    | none => exact b1
    | some ob => exact absurd rfl ((S1.w.c z.b ob h).2.2 z hz)
  refine ⟨P.bx, frzL G1 H1, bs, _, _, ws, rsvA_ok S1.w hb r1, h1, fun v G' H' d e2 w2 r2 ⟨hn, hR⟩ => ?_, er_no⟩
  obtain ⟨G3, e3, w3, ht⟩ := back_cells S1.w e2 w2
  exact k v ⟨G3, G1.M⟩ H' d (e1.trans e3) (S1.ext e3 w3) (rp_cutM ht hn r2) hR
theorem q_callB2 {k0 : Nat} (F : DefAt X.prog X.w X.K X.mg X.base CX k0 x ps (spF X.K sp)) (hr : Room k X.A) (hq : Quiet CX X) (ha : QA X W (e :: es) da) (hk : k0 ≤ k := by decide) (hg : Gl X x := by rfl) (hdb : (x == ("__debug__" : Str)) = false := by decide) (he : starEach (e :: es) X.env = (false, eval e X.env) :: starEach es X.env := by rfl) (hpl : (backTo pos (starEach es X.env)).any (·.1) = false := by rfl) :
    QE X W (.Call (.Name x p) (e :: es) [] pos) (dCallB sp da) := by
  obtain ⟨fd, F, b, kp, gl⟩ := F.ok
  exact pe_imp (pe_call F (hr.mono hk) hg gl kp b .nil hq ha hdb he hpl) fun _ _ _ => lift_callB
end
/-! ### equality that looks into cells -/
def gEqB (M : Mu) : F2 := fun x y R => ∃ x' y', Rsv M x x' ∧ Rsv M y y' ∧ fEq x' y' R
def gNeB (M : Mu) : F2 := fun x y R => ∃ x' y', Rsv M x x' ∧ Rsv M y y' ∧ fNe x' y' R
theorem op_cellsB {K : PySem.W.Frag} {r : R2} {f : F2} (hs : R2Ok K r f) {bx : Option Bx} {G : Gm} {H : Hp} (wo : Wo K bx G H) {v w : V} {x y x' y' : PyData} {R : PyData → Prop} {Q : VK} (r1 : Rp K G v x) (r2 : Rp K G w y) (h1 : Rsv G.M x x') (h2 : Rsv G.M y y')
    (h : f x' y' fun z => flatD z = true ∧ R z) (k : ∀ u G' H' d, Gro G.G H G' H' → Same G' H' → Rp K G' u d → R d → Q u H') : r v w H Q := by
  refine hs (frzL G H) H v w _ _ _ Q (frzL_same wo).2 (rsv_rp wo h1 r1) (rsv_rp wo h2 r2) h fun u G' H' d e s r ⟨fl, hR⟩ => ?_
  refine k u G.G H' d ⟨Same.refl _, e.s, fun _ _ q => .inl q⟩ (wo.s.trans e.s) ?_ hR
  cases r with
  | non => exact .non
  | bl b => exact .bl b
  | int i => exact .int i
  | str z => exact .str z
  | _ => cases fl
theorem m_eqB {X : Cx} (hu : X.A.units + 65 < cLine) : CmpOkM X .Eq gEqB := ⟨_, op_eqD (by omega), fun bx G H v w x y R Q wo r1 r2 ⟨x', y', h1, h2, a, b, hR⟩ k => op_cellsB eq_ok wo r1 r2 h1 h2 ⟨a, b, rfl, hR⟩ k⟩
theorem m_neB {X : Cx} (hu : X.A.units + 65 < cLine) : CmpOkM X .NotEq gNeB := ⟨_, op_neD (by omega), fun bx G H v w x y R Q wo r1 r2 ⟨x', y', h1, h2, a, b, hR⟩ k => op_cellsB ne_ok wo r1 r2 h1 h2 ⟨a, b, rfl, hR⟩ k⟩
/-! ### truth, isinstance, parts -/
def gTru (M : Mu) (d : PyData) (R : Bool → Prop) : Prop := match celM M d with
  | some (.lst ds) => R (!ds.isEmpty)
  | some _ => False
  | none => (noDct d = true ∧ small d) ∧ R (truD d)
def dTruG (de : DE) : DT := fun E R Xn => de E (fun d M => gTru M d fun b => R b M) Xn
def dIsiG (T : String) (de : DE) : DE := fun E R Xn => de E (fun d M => noDct (resL M d) = true ∧ R (.bool (isD T (resL M d))) M) Xn
section
variable {X : Cx} {W : WX} {pos p p2 : Pos} {e a : Expr} {de da : DE} {d1 d2 : DO} {lo hi : Option Expr}
theorem celM_noDct {M : Mu} {d : PyData} {ob : Ob} (h : celM M d = some ob) : noDct d = false := by
  obtain ⟨a, e, _⟩ := celM_some h
  subst e
  rfl
theorem t_truG (h : QE X W e de) (he : ∀ whole, isTrue e X.env whole = (do let v ← whole; standAt e.pos; holding [v] (truthy v)) := by intro _; rfl) : QT X W e (dTruG de) := pt_imp (pt_truth h he) fun σ H Q ⟨P, R, Xn, S, h, k, kx⟩ =>
  ⟨P, _, Xn, S, h, fun v G1 H1 d e1 S1 r1 hR => by
    unfold gTru at hR
    split at hR
    · rename_i ds hc
      obtain ⟨a, ex, hm⟩ := celM_some hc
      subst ex
      have ev := r1.cell_inv
      subst ev
      obtain ⟨⟨xs, h1, h2⟩, _, _⟩ := S1.w.c a _ hm
      exact ⟨_, .inl ⟨xs, SqL.of h1, rfl⟩, k _ G1 H1 e1 S1 (by rw [rps_empty h2]; exact hR)⟩
    · exact hR.elim
    · obtain ⟨⟨nd, hz⟩, hR⟩ := hR
      refine ⟨truD d, ?_, k _ G1 H1 e1 S1 hR⟩
      cases r1 with
      | non => rfl
      | bl b => rfl
      | int i => rfl
      | str x => exact ⟨hz, rfl⟩
      | lst h a => exact .inl ⟨_, SqL.of (S1.w.s _ _ h), (rps_empty a).symm⟩
      | tup h a => exact .inr (.inl ⟨_, SqT.of (S1.w.s _ _ h), (rps_empty a).symm⟩)
      | _ => exact Bool.noConfusion (show false = true from nd), kx⟩
theorem b_isiG {T : String} {x : Str} (fr : Fr X.mg) (hT : T ∈ ["int", "bool", "str", "list", "tuple"]) (hx : X.mg x = none) (hv : bootBuiltins x = some (.type T)) (ha : QE X W a da) (hgx : Gl X x := by rfl) (hg : Gl X "isinstance" := by rfl) (hnx : x ≠ "__name__" := by decide) (hdx : (x == ("__debug__" : Str)) = false := by decide)
    (he : starEach [a, .Name x p2] X.env = (false, eval a X.env) :: starEach [.Name x p2] X.env := by rfl) (he2 : starEach [.Name x p2] X.env = (false, eval (.Name x p2) X.env) :: starEach [] X.env := by rfl) (hpl : (backTo pos (starEach [.Name x p2] X.env)).any (·.1) = false := by rfl) :
    QE X W (.Call (.Name "isinstance" p) [a, .Name x p2] [] pos) (dIsiG T da) :=
  pe_imp (pe_callB (id := "isinstance") call_isi hg fr.isi (by decide +kernel) (pa_cons ha (pa_cons (pe_bltn (v := .ty T) (u := .type T) hgx hx hv rfl hnx hdx) pa_nil he2) he) (by decide) (by decide) he hpl) fun σ H Q ⟨P, R, Xn, S, h, k, kx⟩ =>
  ⟨P, _, Xn, S, h, fun v G1 H1 d e1 S1 r1 ⟨nd, hR⟩ => by
    unfold resL at nd hR
    split at nd
    · rename_i ds hc
      rw [hc] at hR
      obtain ⟨b, ex, hm⟩ := celM_some hc
      subst ex
      have ev := r1.cell_inv
      subst ev
      obtain ⟨⟨xs, h1, h2⟩, _, _⟩ := S1.w.c b _ hm
      exact ⟨_, .ty T, .type "list", .type T, isD T (.list ds), rfl, .ty T, .base (.lst h1), kit_data hT (.list ds), k _ G1 H1 _ e1 S1 (.bl _) hR⟩
    · rename_i hn
      have hR : R (.bool (isD T d)) G1.M := by
        split at hR
        · rename_i ds hc; exact (hn ds hc).elim
        · exact hR
      exact ⟨v, .ty T, .type (tyD d), .type T, isD T d, rfl, .ty T, rp_ty S1.w.s nd r1, kit_data hT d, k _ G1 H1 _ e1 S1 (.bl _) hR⟩, kx⟩
/-- a part of a list, a cell's too: a new list -/
def dSlG (da : DE) (d1 d2 : DO) : DF := fun E R Xn => da E (fun d => d1 E (fun lo => d2 E (fun hi M => fCutL (resL M d) lo hi fun z => R z M) Xn) Xn) Xn
theorem f_cutG (ha : QE X W a da) (h1 : QO X W lo d1) (h2 : QO X W hi d2) : QF X W (.Subscript a (.Slice lo hi none p2) pos) (dSlG da d1 d2) :=
  pe_imp (pe_slice sl_list ha h1 h2) fun σ H Q ⟨P, R, Xn, S, h, k, kx⟩ =>
  ⟨P, _, Xn, S, h, fun v G1 H1 d e1 S1 r1 h1 => ⟨P.go G1, _, Xn, S1, h1, fun lo G2 H2 e2 S2 h2 => ⟨P.go G2, _, Xn, S2, h2, fun hi G3 H3 e3 S3 h3 => by
    have e := e1.trans (e2.trans e3)
    have r3 := r1.up (e2.trans e3).g
    have fin : ∀ (a : Addr) (xs : List V) (ds : List PyData), SqL X.K H3 a xs → RpAll X.K G3 xs ds → R (cutD ds lo hi) G3.M → ∃ p xs', V.ref a = .ref p ∧ SqL X.K H3 p xs' ∧ ∀ q, H3 q = none → Q (.ref q) (upd H3 q (.lst (cutV xs' lo hi))) := fun a xs ds hs rr hR => by
      refine ⟨a, xs, rfl, hs, fun q hq => ?_⟩
      have en : Gro G3.G H3 G3.G (upd H3 q (.lst (cutV xs lo hi))) := Gro.own hq
      exact k q _ G3 _ _ (e.trans en.any) (S3.pure en (same_own S3.w.s hq)) (e.none_of hq) (S3.w.s.free hq) (S3.w.m_none hq) upd_same (cut_rp rr lo hi) hR
    unfold resL at h3
    split at h3
    · rename_i ds hc
      obtain ⟨b, ex, hm⟩ := celM_some hc
      subst ex
      have ev := r3.cell_inv
      subst ev
      obtain ⟨⟨xs, f1, f2⟩, _, _⟩ := S3.w.c b _ hm
      exact fin b xs ds (SqL.of f1) f2 h3
    · cases r3 with
      | @lst b xs ds h4 a4 => exact fin b xs ds (SqL.of (S3.w.s _ _ h4)) a4 h3
      | _ => exact h3.elim, kx⟩, kx⟩, kx⟩
end
section
variable {M : Mu} {E : List En} {de : DE} {da : DA} {R : PyData → Mu → Prop} {RT : Bool → Mu → Prop} {Xn : Er → Mu → Prop} {RF : List PyData → Mu → Prop} {Q : Bool → Prop} {ds : List PyData} {a : Addr} {d1 d2 : DO} {sp : DSp} {T : String}
@[simp] theorem dCallB_s : dCallB sp da E R Xn = da E (fun as M => ∃ bs, RsvA M as bs ∧ sp bs (fun d => noL d = true ∧ R d M) (fun _ => False)) Xn := rfl
@[simp] theorem dTruG_s : dTruG de E RT Xn = de E (fun d M => gTru M d fun b => RT b M) Xn := rfl
@[simp] theorem gTru_n : gTru M .none Q = Q false := by simp [gTru]
@[simp] theorem gTru_b {b : Bool} : gTru M (.bool b) Q = Q b := by simp [gTru]
@[simp] theorem gTru_i {i : Int} : gTru M (.int i) Q = Q (i != 0) := by simp [gTru]
@[simp] theorem gTru_s {z : Str} : gTru M (.str z) Q = (z.length ≤ sizeLine ∧ Q ((z.length : Int) != 0)) := by simp [gTru, truD]
@[simp] theorem gTru_l : gTru M (.list ds) Q = (ds.length ≤ sizeLine ∧ Q (!ds.isEmpty)) := by simp [gTru]
@[simp] theorem gTru_t : gTru M (.tuple ds) Q = (ds.length ≤ sizeLine ∧ Q (!ds.isEmpty)) := by simp [gTru]
theorem gTru_c (h : M a = some (.lst ds)) : gTru M (cellD a) Q = Q (!ds.isEmpty) := by simp [gTru, h]
@[simp] theorem dIsiG_s : dIsiG T de E R Xn = de E (fun d M => noDct (resL M d) = true ∧ R (.bool (isD T (resL M d))) M) Xn := rfl
@[simp] theorem dSlG_s : dSlG de d1 d2 E RF Xn = de E (fun d => d1 E (fun lo => d2 E (fun hi M => fCutL (resL M d) lo hi fun z => RF z M) Xn) Xn) Xn := rfl
end
/-! simp forms of the former -/
section
variable {M : Mu} {E : List En} {dob di de : DE} {da : DA} {df : DF} {sa : DS} {D : DEnds} {R : PyData → Mu → Prop} {Xn : Er → Mu → Prop} {RF : List PyData → Mu → Prop} {Q : PyData → Prop} {QL : List PyData → Prop} {ds : List PyData} {kvs : List (Key × PyData)} {a : Addr} {l : Option (Obj × List (Key × V))} {i : Nat}
@[simp] theorem dCel_s : dCel df E R Xn = df E (fun ds M => ∀ a, M a = none → R (cellD a) (M.set a (.lst ds))) Xn := rfl
@[simp] theorem dNewD_s : dNewD E R Xn = fun M => ∀ a, M a = none → R (cellD a) (M.set a (.dct none [])) := rfl
def asCel (d : PyData) (R : Addr → Prop) : Prop := ∃ a, d = cellD a ∧ R a
@[simp] theorem asCel_c {R : Addr → Prop} : asCel (cellD a) R = R a := propext ⟨fun ⟨_, e, h⟩ => by rw [cellD_inj e]; exact h, fun h => ⟨a, rfl, h⟩⟩
theorem asCel_eq {d : PyData} {P : Addr → Prop} : (∃ a, d = cellD a ∧ P a) = asCel d P := rfl
@[simp] theorem dFzC_s : dFzC de E R Xn = de E (fun d M => asCel d fun a => ∃ ob, M a = some ob ∧ R (obD ob) (M.del a)) Xn := by
  funext M
  unfold dFzC asCel
  congr 1
  funext d M
  apply propext
  exact ⟨fun ⟨a, ob, h1, h2⟩ => ⟨a, h1, ob, h2⟩, fun ⟨a, h1, ob, h2⟩ => ⟨a, ob, h1, h2⟩⟩
@[simp] theorem dFrzC_s : dFrzC i sa D E = fun M => ∃ d, E[i]? = some (.dat d) ∧ asCel d fun a => ∃ ob, M a = some ob ∧ sa D (E.set i (.dat (obD ob))) (M.del a) := by
  funext M
  unfold dFrzC asCel
  apply propext
  exact ⟨fun ⟨a, ob, h1, h2, h3⟩ => ⟨_, h1, a, rfl, ob, h2, h3⟩, fun ⟨d, h1, a, e, ob, h2, h3⟩ => ⟨a, ob, by rw [← e]; exact h1, h2, h3⟩⟩
@[simp] theorem obD_l : obD (.lst ds) = .list ds := rfl
@[simp] theorem obD_d : obD (.dct l kvs) = dctD kvs := rfl
@[simp] theorem obD_i {C : Str} {fs : List (Str × PyData)} : obD (.ins C fs) = insD C fs := rfl
@[simp] theorem dCBG_s {g : Mu → FC} : dCBG g da E R Xn = da E (fun as M => asD as fun ds => g M ds fun d => R d M) Xn := rfl
@[simp] theorem dCBFG_s {g : Mu → FCF} : dCBFG g da E RF Xn = da E (fun as M => asD as fun ds => g M ds fun d => RF d M) Xn := rfl
@[simp] theorem gLen_1 {d : PyData} : gLen M [d] Q = gLen1 M d Q := propext ⟨fun ⟨_, e, h⟩ => by cases e; exact h, fun h => ⟨d, rfl, h⟩⟩
@[simp] theorem gLen1_l : gLen1 M (.list ds) Q = (ds.length ≤ sizeLine ∧ Q (.int ds.length)) := by
  apply propext
  constructor
  · rintro (h | ⟨_, e, _⟩)
    · simpa using h
    · cases e
  · exact fun h => .inl (by simpa using h)
@[simp] theorem gLen1_t : gLen1 M (.tuple ds) Q = (ds.length ≤ sizeLine ∧ Q (.int ds.length)) := by
  apply propext
  constructor
  · rintro (h | ⟨_, e, _⟩)
    · simpa using h
    · cases e
  · exact fun h => .inl (by simpa using h)
@[simp] theorem gLen1_s {z : Str} : gLen1 M (.str z) Q = (z.length ≤ sizeLine ∧ Q (.int z.length)) := by
  apply propext
  constructor
  · rintro (⟨_, n, e, h1, h2, h3⟩ | ⟨_, e, _⟩)
    · cases e; cases h1; exact ⟨h2, h3⟩
    · cases e
  · exact fun h => .inl ⟨_, _, rfl, rfl, h.1, h.2⟩
@[simp] theorem gLen1_d : gLen1 M (dctD kvs) Q = Q (.int kvs.length) := by
  unfold gLen1
  rw [celM_d]
  apply propext
  constructor
  · rintro (⟨_, n, e, h1, _⟩ | ⟨_, e, h⟩)
    · cases e; cases h1
    · rw [dctD_inj e]; exact h
  · exact fun h => .inr ⟨_, rfl, h⟩
def gLenC (o : Option Ob) (R : PyData → Prop) : Prop := match o with
  | some (.lst xs) => xs.length ≤ sizeLine ∧ R (.int xs.length)
  | some (.dct _ kvs) => R (.int kvs.length)
  | _ => False
@[simp] theorem gLen1_c : gLen1 M (cellD a) Q = gLenC (M a) Q := by
  unfold gLen1 gLenC
  rw [celM_c]
  cases h : M a with
  | some ob => cases ob <;> rfl
  | none =>
    apply propext
    constructor
    · rintro (⟨_, n, e, h1, _⟩ | ⟨_, e, h⟩)
      · cases e; cases h1
      · exact cell_dct e
    · exact False.elim
@[simp] theorem gLenC_l : gLenC (some (.lst ds)) Q = (ds.length ≤ sizeLine ∧ Q (.int ds.length)) := rfl
@[simp] theorem gLenC_d : gLenC (some (.dct l kvs)) Q = Q (.int kvs.length) := rfl
@[simp] theorem gList_1 {d : PyData} : gList M [d] QL = gList1 M d QL := propext ⟨fun ⟨_, e, h⟩ => by cases e; exact h, fun h => ⟨d, rfl, h⟩⟩
@[simp] theorem gList1_l : gList1 M (.list ds) QL = QL ds := by
  apply propext
  constructor
  · rintro (h | ⟨_, e, _⟩)
    · simpa using h
    · cases e
  · exact fun h => .inl (by simpa using h)
@[simp] theorem gList1_t : gList1 M (.tuple ds) QL = QL ds := by
  apply propext
  constructor
  · rintro (h | ⟨_, e, _⟩)
    · simpa using h
    · cases e
  · exact fun h => .inl (by simpa using h)
@[simp] theorem gList1_d : gList1 M (dctD kvs) QL = QL (kvs.map fun p => kD p.1) := by
  unfold gList1
  rw [celM_d]
  apply propext
  constructor
  · rintro (⟨_, n, e, h1, _⟩ | ⟨_, e, h⟩)
    · cases e; cases h1
    · rw [dctD_inj e]; exact h
  · exact fun h => .inr ⟨_, rfl, h⟩
def gListC (o : Option Ob) (R : List PyData → Prop) : Prop := match o with
  | some (.lst xs) => R xs
  | some (.dct _ kvs) => R (kvs.map fun p => kD p.1)
  | _ => False
@[simp] theorem gList1_c : gList1 M (cellD a) QL = gListC (M a) QL := by
  unfold gList1 gListC
  rw [celM_c]
  cases h : M a with
  | some ob => cases ob <;> rfl
  | none =>
    apply propext
    constructor
    · rintro (⟨_, n, e, h1, _⟩ | ⟨_, e, h⟩)
      · cases e; cases h1
      · exact cell_dct e
    · exact False.elim
@[simp] theorem gListC_l : gListC (some (.lst ds)) QL = QL ds := rfl
@[simp] theorem gListC_d : gListC (some (.dct l kvs)) QL = QL (kvs.map fun p => kD p.1) := rfl
@[simp] theorem dCopyD_s : dCopyD de E R Xn = de E (fun d M => asDctM M d fun kvs => ∀ a, M a = none → R (cellD a) (M.set a (.dct none kvs))) Xn := rfl
@[simp] theorem asDctM_d {R : List (Key × PyData) → Prop} : asDctM M (dctD kvs) R = R kvs := by
  unfold asDctM
  rw [celM_d]
  exact propext ⟨fun ⟨_, e, h⟩ => by rw [dctD_inj e]; exact h, fun h => ⟨_, rfl, h⟩⟩
theorem asDctM_c {R : List (Key × PyData) → Prop} (h : M a = some (.dct l kvs)) : asDctM M (cellD a) R = R kvs := by
  unfold asDctM
  rw [celM_c, h]
def asLst (o : Option Ob) (R : List PyData → Prop) : Prop := ∃ ds, o = some (.lst ds) ∧ R ds
@[simp] theorem asLst_s {R : List PyData → Prop} : asLst (some (.lst ds)) R = R ds := propext ⟨fun ⟨_, e, h⟩ => by cases e; exact h, fun h => ⟨ds, rfl, h⟩⟩
theorem asLM_s {x : PyData} {R : Addr → List PyData → Prop} : asLM M x R = asCel x fun a => asLst (M a) fun ds => R a ds := propext ⟨fun ⟨a, ds, e, h, r⟩ => ⟨a, e, ds, h, r⟩, fun ⟨a, e, ds, h, r⟩ => ⟨a, ds, e, h, r⟩⟩
@[simp] theorem dAppC_s : dAppC dob de E R Xn = dob E (fun x M => asCel x fun a => asLst (M a) fun _ => de E (fun d M => asLst (M a) fun ds => ds.length < sizeLine ∧ R .none (M.set a (.lst (ds ++ [d])))) Xn M) Xn := by
  unfold dAppC
  simp only [asLM_s]
  rfl
@[simp] theorem dInsC_s : dInsC dob di de E R Xn = dob E (fun x M => asCel x fun a => asLst (M a) fun _ => di E (fun z => de E (fun d M => asI z fun k => asLst (M a) fun ds => ds.length < sizeLine ∧ 0 ≤ k ∧ k < 2 ^ 63 ∧ R .none (M.set a (.lst (ds.take k.toNat ++ [d] ++ ds.drop k.toNat)))) Xn) Xn M) Xn := by
  unfold dInsC
  simp only [asLM_s]
  congr 1
  funext x M
  congr 1
  funext a
  congr 1
  funext ds0
  congr 1
  funext z
  congr 1
  funext d M
  unfold asI asLst
  apply propext
  exact ⟨fun ⟨ds, k, h1, h2, h3⟩ => ⟨k, h2, ds, h1, h3⟩, fun ⟨k, h2, ds, h1, h3⟩ => ⟨ds, k, h1, h2, h3⟩⟩
@[simp] theorem dExtC_s : dExtC dob de E R Xn = dob E (fun x M => asCel x fun a => asLst (M a) fun _ => de E (fun d M => asLst (M a) fun ds => asL (resL M d) fun es => ds.length + es.length ≤ sizeLine ∧ R .none (M.set a (.lst (ds ++ es)))) Xn M) Xn := by
  unfold dExtC
  simp only [asLM_s]
  congr 1
  funext x M
  congr 1
  funext a
  congr 1
  funext ds0
  congr 1
  funext d M
  unfold asL asLst
  apply propext
  exact ⟨fun ⟨ds, es, h1, h2, h3⟩ => ⟨ds, h1, es, h2, h3⟩, fun ⟨ds, h1, es, h2, h3⟩ => ⟨ds, es, h1, h2, h3⟩⟩
@[simp] theorem dPopC_s : dPopC dob E R Xn = dob E (fun x M => asCel x fun a => asLst (M a) fun ds => ∃ d, ds.getLast? = some d ∧ R d (M.set a (.lst ds.dropLast))) Xn := by
  unfold dPopC
  simp only [asLM_s]
@[simp] theorem dClrC_s : dClrC dob E R Xn = dob E (fun x M => asCel x fun a => asLst (M a) fun _ => R .none (M.set a (.lst []))) Xn := by
  unfold dClrC
  simp only [asLM_s]
def asDcN (o : Option Ob) (R : List (Key × PyData) → Prop) : Prop := ∃ kvs, o = some (.dct none kvs) ∧ R kvs
@[simp] theorem asDcN_s {R : List (Key × PyData) → Prop} : asDcN (some (.dct none kvs)) R = R kvs := propext ⟨fun ⟨_, e, h⟩ => by cases e; exact h, fun h => ⟨kvs, rfl, h⟩⟩
def asKey (y : PyData) (R : Key → Prop) : Prop := ∃ k, y = kD k ∧ R k
@[simp] theorem asKey_i {i : Int} {R : Key → Prop} : asKey (.int i) R = R (.inl i) := propext ⟨fun ⟨k, e, h⟩ => by cases k <;> cases e; exact h, fun h => ⟨_, rfl, h⟩⟩
@[simp] theorem asKey_s {i : Str} {R : Key → Prop} : asKey (.str i) R = R (.inr i) := propext ⟨fun ⟨k, e, h⟩ => by cases k <;> cases e; exact h, fun h => ⟨_, rfl, h⟩⟩
@[simp] theorem dPopD_s : dPopD dob de E R Xn = dob E (fun x M => asCel x fun a => asDcN (M a) fun _ => de E (fun y M => asDcN (M a) fun kvs => asKey y fun k => ∃ d, lookK kvs k = some d ∧ R d (M.set a (.dct none (dropD kvs k)))) Xn M) Xn := by
  unfold dPopD
  congr 1
  funext x M
  apply propext
  constructor
  · rintro ⟨⟨a, kvs, e, hm⟩, h⟩
    subst e
    refine ⟨a, rfl, kvs, hm, ?_⟩
    have e2 : (fun (y : PyData) (M : Mu) => ∃ a' kvs k d, cellD a = cellD a' ∧ M a' = some (.dct none kvs) ∧ y = kD k ∧ lookK kvs k = some d ∧ R d (M.set a' (.dct none (dropD kvs k)))) = (fun (y : PyData) (M : Mu) => asDcN (M a) fun kvs => asKey y fun k => ∃ d, lookK kvs k = some d ∧ R d (M.set a (.dct none (dropD kvs k)))) := by
      funext y M
      apply propext
      constructor
      · rintro ⟨a', kvs, k, d, e, h1, h2, h3, h4⟩
        have := cellD_inj e
        subst this
        exact ⟨kvs, h1, k, h2, d, h3, h4⟩
      · rintro ⟨kvs, h1, k, h2, d, h3, h4⟩
        exact ⟨a, kvs, k, d, rfl, h1, h2, h3, h4⟩
    rw [← e2]
    exact h
  · rintro ⟨a, e, kvs, hm, h⟩
    subst e
    refine ⟨⟨a, kvs, rfl, hm⟩, ?_⟩
    have e2 : (fun (y : PyData) (M : Mu) => ∃ a' kvs k d, cellD a = cellD a' ∧ M a' = some (.dct none kvs) ∧ y = kD k ∧ lookK kvs k = some d ∧ R d (M.set a' (.dct none (dropD kvs k)))) = (fun (y : PyData) (M : Mu) => asDcN (M a) fun kvs => asKey y fun k => ∃ d, lookK kvs k = some d ∧ R d (M.set a (.dct none (dropD kvs k)))) := by
      funext y M
      apply propext
      constructor
      · rintro ⟨a', kvs, k, d, e, h1, h2, h3, h4⟩
        have := cellD_inj e
        subst this
        exact ⟨kvs, h1, k, h2, d, h3, h4⟩
      · rintro ⟨kvs, h1, k, h2, d, h3, h4⟩
        exact ⟨a, kvs, k, d, rfl, h1, h2, h3, h4⟩
    rw [e2]
    exact h
def putC (o : Option Ob) (y d : PyData) (N : Ob → Prop) : Prop := match o with
  | some (.lst ds) => ∃ k j, y = .int k ∧ ixN ds.length k = some j ∧ N (.lst (ds.set j d))
  | some (.dct none kvs) => ∃ k, y = kD k ∧ kvs.length < sizeLine ∧ N (.dct none (putD kvs k d))
  | _ => False
theorem putG_s {x y d : PyData} {N : Mu → Prop} : putG M x y d N = asCel x fun a => putC (M a) y d fun ob => N (M.set a ob) := by
  unfold putG asCel
  congr 1
@[simp] theorem putC_l {k : Int} {d : PyData} {N : Ob → Prop} : putC (some (.lst ds)) (.int k) d N = ∃ j, ixN ds.length k = some j ∧ N (.lst (ds.set j d)) := propext ⟨fun ⟨_, j, e, h⟩ => by cases e; exact ⟨j, h⟩, fun ⟨j, h⟩ => ⟨k, j, rfl, h⟩⟩
@[simp] theorem putC_d {y d : PyData} {N : Ob → Prop} : putC (some (.dct none kvs)) y d N = asKey y fun k => kvs.length < sizeLine ∧ N (.dct none (putD kvs k d)) := rfl
@[simp] theorem dPutG_s : dPutG dob di de D E = de E (fun d => dob E (fun x => di E (fun y M => asCel x fun a => putC (M a) y d fun ob => D.nx E (M.set a ob)) (fun x => D.ex x E)) (fun x => D.ex x E)) (fun x => D.ex x E) := by
  unfold dPutG
  simp only [putG_s]
end
end Wx

namespace Wx
open PySem PySem.Spec PyProof.Rows L2
/-! ### maps of whole numbers, and a largest matching -/
section
variable {α : Type}
def lk (T : List (Nat × α)) (x : Nat) : Option α := (T.find? fun p => decide (p.1 = x)).map (·.2)
def put (T : List (Nat × α)) (k : Nat) (v : α) : List (Nat × α) := if (T.any fun p => decide (p.1 = k)) = true then T.map (fun p => if p.1 = k then (p.1, v) else p) else T ++ [(k, v)]
theorem lk_nil {x : Nat} : lk ([] : List (Nat × α)) x = none := rfl
theorem lk_cons {p : Nat × α} {T : List (Nat × α)} {x : Nat} : lk (p :: T) x = if p.1 = x then some p.2 else lk T x := by
  unfold lk
  rw [List.find?_cons]
  by_cases h : p.1 = x <;> simp [h]
theorem lk_mem : ∀ {T : List (Nat × α)} {x : Nat} {v : α}, lk T x = some v → (x, v) ∈ T
  | [], _, _, h => by cases h
  | p :: T, x, v, h => by
    rw [lk_cons] at h
    by_cases e : p.1 = x
    · rw [if_pos e] at h
      cases h
      subst e
      simp
    · rw [if_neg e] at h
      exact List.mem_cons_of_mem _ (lk_mem h)
theorem lk_none : ∀ {T : List (Nat × α)} {x : Nat}, lk T x = none ↔ x ∉ T.map (·.1)
  | [], _ => by simp [lk_nil]
  | p :: T, x => by
    rw [lk_cons]
    by_cases e : p.1 = x
    · simp [e]
    · rw [if_neg e, lk_none]
      have : x ≠ p.1 := fun h => e h.symm
      simp [this]
theorem lk_some {T : List (Nat × α)} {x : Nat} : x ∈ T.map (·.1) → ∃ v, lk T x = some v := fun h => by
  cases e : lk T x with
  | none => exact absurd h (lk_none.mp e)
  | some v => exact ⟨v, rfl⟩
theorem lk_of : ∀ {T : List (Nat × α)} {x : Nat} {v : α}, (T.map (·.1)).Nodup → (x, v) ∈ T → lk T x = some v
  | p :: T, x, v, hn, h => by
    rw [List.map_cons, List.nodup_cons] at hn
    rw [lk_cons]
    rcases List.mem_cons.mp h with e | h
    · subst e
      simp
    · have : p.1 ≠ x := fun e => hn.1 (List.mem_map.mpr ⟨_, h, e.symm⟩)
      rw [if_neg this]
      exact lk_of hn.2 h
theorem any_key {T : List (Nat × α)} {k : Nat} : (T.any fun p => decide (p.1 = k)) = true ↔ k ∈ T.map (·.1) := by
  rw [List.any_eq_true]
  constructor
  · rintro ⟨p, hp, h⟩
    exact List.mem_map.mpr ⟨p, hp, by simpa using h⟩
  · intro h
    obtain ⟨p, hp, e⟩ := List.mem_map.mp h
    exact ⟨p, hp, by simpa using e⟩
theorem put_new {T : List (Nat × α)} {k : Nat} {v : α} (h : k ∉ T.map (·.1)) : put T k v = T ++ [(k, v)] := by
  unfold put
  rw [if_neg fun e => h (any_key.mp e)]
theorem put_old {T : List (Nat × α)} {k : Nat} {v : α} (h : k ∈ T.map (·.1)) : put T k v = T.map (fun p => if p.1 = k then (p.1, v) else p) := by
  unfold put
  rw [if_pos (any_key.mpr h)]
theorem put_keys {T : List (Nat × α)} {k : Nat} {v : α} (h : k ∈ T.map (·.1)) : (put T k v).map (·.1) = T.map (·.1) := by
  rw [put_old h, List.map_map]
  apply List.map_congr_left
  intro p _
  simp only [Function.comp]
  split <;> rfl
theorem lk_app {T U : List (Nat × α)} {x : Nat} : lk (T ++ U) x = (lk T x).or (lk U x) := by
  unfold lk
  rw [List.find?_append]
  cases T.find? fun p => decide (p.1 = x) <;> simp
theorem lk_map {T : List (Nat × α)} {k x : Nat} {v : α} : lk (T.map fun p => if p.1 = k then (p.1, v) else p) x = if x = k then (lk T x).map fun _ => v else lk T x := by
  induction T with
  | nil => simp [lk_nil]
  | cons p T ih =>
    rw [List.map_cons, lk_cons, lk_cons, ih]
    by_cases h1 : p.1 = k
    · by_cases h2 : k = x
      · subst h2
        simp [h1]
      · have : x ≠ k := fun e => h2 e.symm
        simp [h1, h2, this]
    · by_cases h2 : p.1 = x
      · have : x ≠ k := fun e => h1 (by rw [h2, e])
        simp [h1, h2, this]
      · simp [h1, h2]
theorem lk_put {T : List (Nat × α)} {k x : Nat} {v : α} : lk (put T k v) x = if x = k then some v else lk T x := by
  by_cases h : k ∈ T.map (·.1)
  · rw [put_old h, lk_map]
    by_cases e : x = k
    · subst e
      obtain ⟨u, hu⟩ := lk_some h
      simp [hu]
    · rw [if_neg e, if_neg e]
  · rw [put_new h, lk_app]
    by_cases e : x = k
    · subst e
      rw [lk_none.mpr h]
      simp [lk_cons]
    · have : k ≠ x := fun q => e q.symm
      simp [lk_cons, lk_nil, e, this]
theorem put_mem {T : List (Nat × α)} {k : Nat} {v : α} {p : Nat × α} (h : p ∈ put T k v) : p = (k, v) ∨ p ∈ T := by
  by_cases hk : k ∈ T.map (·.1)
  · rw [put_old hk] at h
    obtain ⟨q, hq, e⟩ := List.mem_map.mp h
    by_cases e2 : q.1 = k
    · rw [if_pos e2, e2] at e
      exact .inl e.symm
    · rw [if_neg e2] at e
      exact .inr (e ▸ hq)
  · rw [put_new hk] at h
    rcases List.mem_append.mp h with h | h
    · exact .inr h
    · exact .inl (by simpa using h)
theorem put_vals : ∀ {T : List (Nat × α)} {k : Nat} {u v : α}, (T.map (·.1)).Nodup → lk T k = some u → (u :: (T.map fun p => if p.1 = k then (p.1, v) else p).map (·.2)).Perm (v :: T.map (·.2))
  | [], _, _, _, _, h => by cases h
  | p :: T, k, u, v, hn, h => by
    rw [List.map_cons, List.nodup_cons] at hn
    rw [lk_cons] at h
    by_cases e : p.1 = k
    · rw [if_pos e] at h
      cases h
      have : (T.map fun q : Nat × α => if q.1 = k then (q.1, v) else q) = T := by
        conv => rhs; rw [← List.map_id T]
        apply List.map_congr_left
        intro q hq
        have : q.1 ≠ k := fun e2 => hn.1 (List.mem_map.mpr ⟨q, hq, by rw [e2, e]⟩)
        simp [this]
      rw [List.map_cons, this, if_pos e, List.map_cons, List.map_cons]
      exact List.Perm.swap ..
    · rw [if_neg e] at h
      have := put_vals (v := v) hn.2 h
      rw [List.map_cons, if_neg e, List.map_cons, List.map_cons]
      exact ((List.Perm.swap _ _ _).trans (this.cons _)).trans (List.Perm.swap _ _ _)
end
abbrev NM := List (Nat × Nat)
def fpGo (f : Nat → NM → List Nat → Bool × NM × List Nat) (one : Nat) : List Nat → NM → List Nat → Bool × NM × List Nat
  | [], T, S => (false, T, S)
  | o :: r, T, S => if o ∈ S then fpGo f one r T S else match lk T o with
    | none => (true, put T o one, S ++ [o])
    | some u => match f u T (S ++ [o]) with
      | (true, T1, S1) => (true, put T1 o one, S1)
      | (false, T1, S1) => fpGo f one r T1 S1
def fp (dn : Nat → List Nat) : Nat → Nat → NM → List Nat → Bool × NM × List Nat
  | 0, _, T, S => (false, T, S)
  | n + 1, one, T, S => fpGo (fp dn n) one (dn one) T S
def Clo (dn : Nat → List Nat) (T : NM) (C : Nat → Prop) : Prop := ∀ x, C x → ∃ u, lk T x = some u ∧ ∀ o ∈ dn u, C o
/-- one more is matched -/
structure Aug (dn : Nat → List Nat) (one : Nat) (T : NM) (S : List Nat) (T' : NM) : Prop where
  keys : ∃ o, o ∉ T.map (·.1) ∧ T'.map (·.1) = T.map (·.1) ++ [o]
  vals : (T'.map (·.2)).Perm (one :: T.map (·.2))
  edge : ∀ p ∈ T', p ∈ T ∨ p.1 ∈ dn p.2
  agree : ∀ x ∈ S, lk T' x = lk T x
  clo : ∀ C, Clo dn T C → ∀ x, C x → lk T' x = lk T x
structure FpOk (dn : Nat → List Nat) (U : List Nat) (one : Nat) (todo : List Nat) (T : NM) (S : List Nat) (r : Bool × NM × List Nat) : Prop where
  nd : r.2.2.Nodup
  sub : ∀ x ∈ r.2.2, x ∈ U
  ext : ∀ x ∈ S, x ∈ r.2.2
  len : S.length ≤ r.2.2.length
  yes : r.1 = true → Aug dn one T S r.2.1
  no : r.1 = false → r.2.1 = T ∧ (∀ o ∈ todo, o ∈ r.2.2) ∧ ∀ x ∈ r.2.2, x ∈ S ∨ ∃ v, lk T x = some v ∧ ∀ o ∈ dn v, o ∈ r.2.2
  shut : ∀ C, Clo dn T C → (∀ o ∈ todo, C o) → r.1 = false
theorem nd_app {S : List Nat} {o : Nat} (h : S.Nodup) (ho : o ∉ S) : (S ++ [o]).Nodup := by
  rw [List.nodup_append]
  exact ⟨h, by simp, fun a ha b hb => by simp at hb; subst hb; exact fun e => ho (e ▸ ha)⟩
theorem fpGo_ok {dn : Nat → List Nat} {U : List Nat} {n one : Nat} {f : Nat → NM → List Nat → Bool × NM × List Nat} (hU : ∀ v, ∀ o ∈ dn v, o ∈ U)
    (hf : ∀ u T S, (T.map (·.1)).Nodup → S.Nodup → (∀ x ∈ S, x ∈ U) → U.length < S.length + n → FpOk dn U u (dn u) T S (f u T S)) :
    ∀ (r : List Nat) (T : NM) (S : List Nat), (∀ o ∈ r, o ∈ dn one) → (T.map (·.1)).Nodup → S.Nodup → (∀ x ∈ S, x ∈ U) → U.length < S.length + (n + 1) → FpOk dn U one r T S (fpGo f one r T S)
  | [], T, S, _, _, hs, hu, _ => ⟨hs, hu, fun _ h => h, Nat.le_refl _, fun h => (nomatch h), fun _ => ⟨rfl, fun _ h => (nomatch h), fun x h => .inl h⟩, fun _ _ _ => rfl⟩
  | o :: r, T, S, hr, ht, hs, hu, hn => by
    have hoU : o ∈ U := hU one o (hr o (by simp))
    unfold fpGo
    by_cases ho : o ∈ S
    · rw [if_pos ho]
      have i := fpGo_ok hU hf r T S (fun x hx => hr x (by simp [hx])) ht hs hu hn
      exact ⟨i.nd, i.sub, i.ext, i.len, i.yes, fun h => ⟨(i.no h).1, fun x hx => by
        rcases List.mem_cons.mp hx with e | hx
        · exact e ▸ i.ext o ho
        · exact (i.no h).2.1 x hx, (i.no h).2.2⟩, fun C c h => i.shut C c fun x hx => h x (by simp [hx])⟩
    · rw [if_neg ho]
      have hs' := nd_app hs ho
      have hu' : ∀ x ∈ S ++ [o], x ∈ U := fun x hx => by
        rcases List.mem_append.mp hx with h | h
        · exact hu x h
        · simp at h; exact h ▸ hoU
      cases e : lk T o with
      | none =>
        have hk := lk_none.mp e
        refine ⟨hs', hu', fun x hx => by simp [hx], by simp, fun _ => ⟨⟨o, hk, by rw [put_new hk]; simp⟩, ?_, ?_, ?_, ?_⟩, fun h => by simp at h, fun C c h => ?_⟩
        · rw [put_new hk]
          simp only [List.map_append, List.map_cons, List.map_nil]
          exact List.perm_append_singleton _ _
        · intro p hp
          rcases put_mem hp with q | q
          · rw [q]; exact .inr (hr o (by simp))
          · exact .inl q
        · intro x hx
          rw [lk_put, if_neg fun q => ho (by rw [← q]; exact hx)]
        · intro C c x hx
          rw [lk_put, if_neg]
          intro q
          obtain ⟨u, h1, _⟩ := c x hx
          rw [q, e] at h1
          cases h1
        · obtain ⟨u, h1, _⟩ := c o (h o (by simp))
          rw [e] at h1
          cases h1
      | some u =>
        have i := hf u T (S ++ [o]) ht hs' hu' (by simp; omega)
        rcases hq : f u T (S ++ [o]) with ⟨b, T1, S1⟩
        rw [hq] at i
        simp only [hq]
        cases b with
        | true =>
          have a := i.yes rfl
          obtain ⟨o2, h1, h2⟩ := a.keys
          have oT : o ∈ T.map (·.1) := List.mem_map.mpr ⟨_, lk_mem e, rfl⟩
          have oT1 : o ∈ T1.map (·.1) := by
            show o ∈ (T1.map (·.1))
            rw [h2]; exact List.mem_append.mpr (.inl oT)
          have n1 : (T1.map (·.1)).Nodup := by
            show (T1.map (·.1)).Nodup
            rw [h2]; exact nd_app ht h1
          have l1 : lk T1 o = some u := by
            have := a.agree o (by simp)
            rw [this, e]
          refine ⟨i.nd, i.sub, fun x hx => i.ext x (by simp [hx]), Nat.le_trans (by simp) i.len, fun _ => ⟨⟨o2, h1, by rw [put_keys oT1]; exact h2⟩, ?_, ?_, ?_, ?_⟩, fun h => by simp at h, fun C c h => ?_⟩
          · have p1 := put_vals (v := one) n1 l1
            rw [← put_old oT1] at p1
            have p2 : (T1.map (·.2)).Perm (u :: T.map (·.2)) := a.vals
            have p3 := p1.trans ((p2.cons one).trans (List.Perm.swap _ _ _))
            exact List.Perm.cons_inv p3
          · intro p hp
            rcases put_mem hp with q | q
            · rw [q]; exact .inr (hr o (by simp))
            · exact a.edge p q
          · intro x hx
            rw [lk_put, if_neg fun q => ho (by rw [← q]; exact hx)]
            exact a.agree x (by simp [hx])
          · intro C c x hx
            by_cases q : x = o
            · subst q
              obtain ⟨w, h3, h4⟩ := c x hx
              rw [e] at h3
              cases h3
              have := i.shut C c h4
              cases this
            · rw [lk_put, if_neg q]
              exact a.clo C c x hx
          · obtain ⟨w, h3, h4⟩ := c o (h o (by simp))
            rw [e] at h3
            cases h3
            have := i.shut C c h4
            cases this
        | false =>
          obtain ⟨e1, h1, h2⟩ := i.no rfl
          have e1 : T1 = T := e1
          subst e1
          have h1 : ∀ o ∈ dn u, o ∈ S1 := h1
          have h2 : ∀ x ∈ S1, x ∈ S ++ [o] ∨ ∃ v, lk T1 x = some v ∧ ∀ o ∈ dn v, o ∈ S1 := h2
          have hl : (S ++ [o]).length ≤ S1.length := i.len
          rw [List.length_append, List.length_singleton] at hl
          have j := fpGo_ok hU hf r T1 S1 (fun x hx => hr x (by simp [hx])) ht i.nd i.sub (by omega)
          have oS1 : o ∈ S1 := i.ext o (by simp)
          refine ⟨j.nd, j.sub, fun x hx => j.ext x (i.ext x (by simp [hx])), Nat.le_trans (by omega) j.len, fun h => ?_, fun h => ⟨(j.no h).1, fun x hx => ?_, fun x hx => ?_⟩, fun C c h => j.shut C c fun x hx => h x (by simp [hx])⟩
          · have a := j.yes h
            exact ⟨a.keys, a.vals, a.edge, fun x hx => a.agree x (i.ext x (by simp [hx])), a.clo⟩
          · rcases List.mem_cons.mp hx with q | hx
            · exact q ▸ j.ext o oS1
            · exact (j.no h).2.1 x hx
          · rcases (j.no h).2.2 x hx with q | q
            · rcases h2 x q with q | ⟨v, h3, h4⟩
              · rcases List.mem_append.mp q with q | q
                · exact .inl q
                · simp at q
                  subst q
                  exact .inr ⟨u, e, fun o ho => j.ext o (h1 o ho)⟩
              · exact .inr ⟨v, h3, fun o ho => j.ext o (h4 o ho)⟩
            · exact .inr q
theorem fp_ok {dn : Nat → List Nat} {U : List Nat} (nU : U.Nodup) (hU : ∀ v, ∀ o ∈ dn v, o ∈ U) : ∀ (n : Nat) (u : Nat) (T : NM) (S : List Nat), (T.map (·.1)).Nodup → S.Nodup → (∀ x ∈ S, x ∈ U) → U.length < S.length + n → FpOk dn U u (dn u) T S (fp dn n u T S)
  | 0, u, T, S, _, hs, hu, hn => by
    have : S.length ≤ U.length := hs.length_le_of_subset hu
    omega
  | n + 1, u, T, S, ht, hs, hu, hn => fpGo_ok hU (fun u T S => fp_ok nU hU n u T S) (dn u) T S (fun _ h => h) ht hs hu (by omega)
/-- all are tried in turn -/
def tkGo (dn : Nat → List Nat) (n : Nat) : List Nat → NM → NM
  | [], T => T
  | o :: r, T => tkGo dn n r (fp dn n o T []).2.1
def Stuck (dn : Nat → List Nat) (T : NM) (v : Nat) : Prop := ∃ C, Clo dn T C ∧ ∀ o ∈ dn v, C o
structure Best (dn : Nat → List Nat) (P : List Nat) (T : NM) : Prop where
  k : (T.map (·.1)).Nodup
  v : (T.map (·.2)).Nodup
  e : ∀ p ∈ T, p.1 ∈ dn p.2
  p : ∀ p ∈ T, p.2 ∈ P
  s : ∀ x ∈ P, x ∉ T.map (·.2) → Stuck dn T x
theorem Aug.best {dn : Nat → List Nat} {P : List Nat} {T T' : NM} {one : Nat} (a : Aug dn one T [] T') (h : Best dn P T) (ho : one ∉ P) : Best dn (P ++ [one]) T' where
  k := by
    obtain ⟨o, h1, h2⟩ := a.keys
    rw [h2]; exact nd_app h.k h1
  v := by
    refine (a.vals.nodup_iff).mpr (List.nodup_cons.mpr ⟨fun q => ?_, h.v⟩)
    obtain ⟨p, hp, e⟩ := List.mem_map.mp q
    exact ho (e ▸ h.p p hp)
  e := fun p hp => (a.edge p hp).elim (h.e p) id
  p := fun p hp => by
    have := a.vals.subset (List.mem_map.mpr ⟨p, hp, rfl⟩)
    rcases List.mem_cons.mp this with e | q
    · rw [e]; simp
    · obtain ⟨q, hq, e⟩ := List.mem_map.mp q
      rw [← e]; simp [h.p q hq]
  s := fun x hx hv => by
    have hv' : x ≠ one ∧ x ∉ T.map (·.2) := by
      constructor
      · intro e
        exact hv (a.vals.symm.subset (by simp [e]))
      · intro q
        exact hv (a.vals.symm.subset (List.mem_cons_of_mem _ q))
    have hx : x ∈ P := by
      rcases List.mem_append.mp hx with q | q
      · exact q
      · simp at q; exact absurd q hv'.1
    obtain ⟨C, h1, h2⟩ := h.s x hx hv'.2
    exact ⟨C, fun y hy => by
      obtain ⟨u, h3, h4⟩ := h1 y hy
      exact ⟨u, by rw [a.clo C h1 y hy]; exact h3, h4⟩, h2⟩
theorem tk_best {dn : Nat → List Nat} {U : List Nat} {n : Nat} (nU : U.Nodup) (hU : ∀ v, ∀ o ∈ dn v, o ∈ U) (hn : U.length < n) : ∀ (r P : List Nat) (T : NM), (P ++ r).Nodup → Best dn P T → Best dn (P ++ r) (tkGo dn n r T)
  | [], P, T, _, h => by rw [List.append_nil]; exact h
  | o :: r, P, T, hp, h => by
    have hp2 : ((P ++ [o]) ++ r).Nodup := by rw [List.append_assoc]; exact hp
    have ho : o ∉ P := fun q => by
      rw [List.nodup_append] at hp
      exact hp.2.2 o q o (by simp) rfl
    have i := fp_ok nU hU n o T [] h.k List.nodup_nil (fun _ h => (nomatch h)) (by simpa using hn)
    have h2 : Best dn (P ++ [o]) (fp dn n o T []).2.1 := by
      cases e : (fp dn n o T []).1 with
      | true => exact (i.yes e).best h ho
      | false =>
        obtain ⟨h1, h2, h3⟩ := i.no e
        rw [h1]
        refine ⟨h.k, h.v, h.e, fun p hp => by simp [h.p p hp], fun x hx hv => ?_⟩
        rcases List.mem_append.mp hx with q | q
        · exact h.s x q hv
        · simp at q
          subst q
          refine ⟨fun y => y ∈ (fp dn n x T []).2.2, fun y hy => ?_, h2⟩
          rcases h3 y hy with q | q
          · cases q
          · exact q
    have := tk_best nU hU hn r (P ++ [o]) _ hp2 h2
    rw [List.append_assoc] at this
    exact this
theorem best_nil {dn : Nat → List Nat} : Best dn [] [] := ⟨by simp, by simp, fun _ h => (nomatch h), fun _ h => (nomatch h), fun _ h => (nomatch h)⟩
end Wx

namespace Wx
open PySem PySem.Spec PyProof.Rows L2
/-! ### chains of a matching; antichains -/
theorem filter_split {α : Type} (p : α → Bool) : ∀ l : List α, l.length = (l.filter p).length + (l.filter fun x => !p x).length
  | [] => rfl
  | x :: l => by
    have := filter_split p l
    rw [List.filter_cons, List.filter_cons]
    cases p x <;> simp <;> omega
def chF (N : NM) : Nat → Nat → List Nat
  | 0, x => [x]
  | k + 1, x => match lk N x with
    | none => [x]
    | some y => x :: chF N k y
def chEnd (N : NM) : Nat → Nat → Prop
  | 0, x => lk N x = none
  | k + 1, x => match lk N x with
    | none => True
    | some y => chEnd N k y
def swapN (T : NM) : NM := T.map fun p => (p.2, p.1)
theorem ch_none {N : NM} {k x : Nat} (h : lk N x = none) : chF N k x = [x] := by
  cases k with
  | zero => rfl
  | succ k => unfold chF; rw [h]
theorem ch_some {N : NM} {k x y : Nat} (h : lk N x = some y) : chF N (k + 1) x = x :: chF N k y := by
  conv => lhs; unfold chF
  rw [h]
theorem chEnd_some {N : NM} {k x y : Nat} (h : lk N x = some y) (e : chEnd N k x) : ∃ j, k = j + 1 ∧ chEnd N j y := by
  cases k with
  | zero => unfold chEnd at e; rw [h] at e; cases e
  | succ k =>
    unfold chEnd at e
    rw [h] at e
    exact ⟨k, rfl, e⟩
theorem ch_head {N : NM} {k x : Nat} : x ∈ chF N k x := by
  cases e : lk N x with
  | none => rw [ch_none e]; simp
  | some y =>
    cases k with
    | zero => simp [chF]
    | succ k => rw [ch_some e]; simp
theorem ch_cons {N : NM} {k x : Nat} : ∃ r, chF N k x = x :: r := by
  cases k with
  | zero => exact ⟨_, rfl⟩
  | succ k =>
    cases e : lk N x with
    | none => rw [ch_none e]; exact ⟨_, rfl⟩
    | some y => rw [ch_some e]; exact ⟨_, rfl⟩
theorem ch_len {N : NM} : ∀ {k x : Nat}, (chF N k x).length ≤ k + 1
  | 0, x => by simp [chF]
  | k + 1, x => by
    cases e : lk N x with
    | none => rw [ch_none e]; simp
    | some y =>
      rw [ch_some e, List.length_cons]
      have := ch_len (N := N) (k := k) (x := y)
      omega
theorem ch_next {N : NM} {x y : Nat} (h : lk N y = some x) : ∀ {k r : Nat}, chEnd N k r → y ∈ chF N k r → x ∈ chF N k r
  | k, r, he, hy => by
    cases e : lk N r with
    | none =>
      rw [ch_none e] at hy
      simp at hy
      rw [hy, e] at h
      cases h
    | some z =>
      obtain ⟨j, rfl, h2⟩ := chEnd_some e he
      rw [ch_some e] at hy ⊢
      rcases List.mem_cons.mp hy with q | q
      · rw [q, e] at h
        cases h
        exact List.mem_cons_of_mem _ ch_head
      · exact List.mem_cons_of_mem _ (ch_next h h2 q)
section
variable {B : Nat → Nat → Bool} {U : List Nat} {T : NM}
/-- the matching is one of the order -/
structure MOk (B : Nat → Nat → Bool) (U : List Nat) (T : NM) : Prop where
  tr : ∀ {o p q : Nat}, B o p = true → B p q = true → B o q = true
  irr : ∀ o, B o o = false
  nU : U.Nodup
  k : (T.map (·.1)).Nodup
  v : (T.map (·.2)).Nodup
  e : ∀ p ∈ T, B p.1 p.2 = true
  ku : ∀ p ∈ T, p.1 ∈ U
  vu : ∀ p ∈ T, p.2 ∈ U
theorem swap_lk (m : MOk B U T) {x y : Nat} : lk (swapN T) x = some y ↔ lk T y = some x := by
  have hk : ((swapN T).map (·.1)).Nodup := by
    unfold swapN
    rw [List.map_map]
    exact m.v
  constructor
  · intro h
    have := lk_mem h
    obtain ⟨p, hp, e⟩ := List.mem_map.mp this
    cases e
    exact lk_of m.k hp
  · intro h
    exact lk_of hk (List.mem_map.mpr ⟨_, lk_mem h, rfl⟩)
inductive Up (T : NM) : Nat → Nat → Prop
  | refl {x : Nat} : lk T x = none → Up T x x
  | step {x v r : Nat} : lk T x = some v → Up T v r → Up T x r
theorem Up.det {x r s : Nat} (h : Up T x r) (g : Up T x s) : r = s := by
  induction h with
  | refl e =>
    cases g with
    | refl => rfl
    | step e2 _ => rw [e] at e2; cases e2
  | step e _ ih =>
    cases g with
    | refl e2 => rw [e] at e2; cases e2
    | step e2 g => rw [e] at e2; cases e2; exact ih g
theorem Up.root {x r : Nat} (h : Up T x r) : lk T r = none := by
  induction h with
  | refl e => exact e
  | step _ _ ih => exact ih
theorem up_ex (m : MOk B U T) : ∀ (n x : Nat), (U.filter fun y => B x y).length ≤ n → x ∈ U → ∃ r, r ∈ U ∧ Up T x r
  | n, x, hn, hx => by
    cases e : lk T x with
    | none => exact ⟨x, hx, .refl e⟩
    | some v =>
      have hm := lk_mem e
      have hv := m.vu _ hm
      have hb : B x v = true := m.e _ hm
      have hl : (U.filter fun y => B v y).length < (U.filter fun y => B x y).length := filter_lt (fun y _ h => m.tr hb h) hv hb (m.irr v)
      cases n with
      | zero => omega
      | succ n =>
        obtain ⟨r, h1, h2⟩ := up_ex m n v (by omega) hv
        exact ⟨r, h1, .step e h2⟩
theorem ch_ends (m : MOk B U T) : ∀ (k x : Nat), (U.filter fun y => B y x).length ≤ k → chEnd (swapN T) k x
  | k, x, hk => by
    cases e : lk (swapN T) x with
    | none => cases k with
      | zero => exact e
      | succ k => unfold chEnd; rw [e]; trivial
    | some y =>
      have hm := lk_mem ((swap_lk m).mp e)
      have hb : B y x = true := m.e _ hm
      have hy : y ∈ U := m.ku _ hm
      have hl : (U.filter fun z => B z y).length < (U.filter fun z => B z x).length := filter_lt (fun z _ h => m.tr h hb) hy hb (m.irr y)
      cases k with
      | zero => omega
      | succ k =>
        unfold chEnd
        rw [e]
        exact ch_ends m k y (by omega)
theorem ch_up (m : MOk B U T) {r y : Nat} : ∀ {k x : Nat}, y ∈ chF (swapN T) k x → Up T x r → Up T y r
  | 0, x, h, u => by simp [chF] at h; exact h ▸ u
  | k + 1, x, h, u => by
    cases e : lk (swapN T) x with
    | none => rw [ch_none e] at h; simp at h; exact h ▸ u
    | some z =>
      rw [ch_some e] at h
      rcases List.mem_cons.mp h with q | q
      · exact q ▸ u
      · exact ch_up m q (.step ((swap_lk m).mp e) u)
theorem up_ch (m : MOk B U T) {k x r : Nat} (u : Up T x r) (he : chEnd (swapN T) k r) : x ∈ chF (swapN T) k r := by
  induction u with
  | refl => exact ch_head
  | step e _ ih => exact ch_next ((swap_lk m).mpr e) he (ih he)
theorem ch_le (m : MOk B U T) : ∀ {k x y : Nat}, y ∈ chF (swapN T) k x → y = x ∨ (B y x = true ∧ y ∈ U)
  | 0, x, y, h => by simp [chF] at h; exact .inl h
  | k + 1, x, y, h => by
    cases e : lk (swapN T) x with
    | none => rw [ch_none e] at h; simp at h; exact .inl h
    | some z =>
      rw [ch_some e] at h
      have hm := lk_mem ((swap_lk m).mp e)
      have hb : B z x = true := m.e _ hm
      rcases List.mem_cons.mp h with q | q
      · exact .inl q
      · rcases ch_le m q with q | ⟨q, q2⟩
        · rw [q]; exact .inr ⟨hb, m.ku _ hm⟩
        · exact .inr ⟨m.tr q hb, q2⟩
theorem ch_pw (m : MOk B U T) : ∀ {k x : Nat}, (chF (swapN T) k x).Pairwise fun a c => B c a = true
  | 0, x => by simp [chF]
  | k + 1, x => by
    cases e : lk (swapN T) x with
    | none => rw [ch_none e]; simp
    | some z =>
      rw [ch_some e, List.pairwise_cons]
      have hb : B z x = true := m.e _ (lk_mem ((swap_lk m).mp e))
      refine ⟨fun y hy => ?_, ch_pw m⟩
      rcases ch_le m hy with q | ⟨q, _⟩
      · rw [q]; exact hb
      · exact m.tr q hb
theorem pw_nd (m : MOk B U T) {xs : List Nat} (h : xs.Pairwise fun a c => B c a = true) : xs.Nodup := h.imp fun {a c} h e => by
  rw [e, m.irr] at h
  cases h
def rootsN (U : List Nat) (T : NM) : List Nat := U.filter fun x => (lk T x).isNone
theorem chains_perm (m : MOk B U T) {k : Nat} (hk : U.length ≤ k) : ((rootsN U T).map (chF (swapN T) k)).flatten.Perm U := by
  have ends : ∀ x, chEnd (swapN T) k x := fun x => ch_ends m k x (Nat.le_trans (List.length_filter_le _ _) hk)
  have rt : ∀ x, x ∈ rootsN U T ↔ x ∈ U ∧ lk T x = none := fun x => by simp [rootsN]
  refine (List.perm_ext_iff_of_nodup ?_ m.nU).mpr fun x => ?_
  · refine List.pairwise_flatten.mpr ⟨fun r hr => ?_, ?_⟩
    · obtain ⟨x, _, e⟩ := List.mem_map.mp hr
      rw [← e]
      exact pw_nd m (ch_pw m)
    · rw [List.pairwise_map]
      have : (rootsN U T).Nodup := m.nU.filter _
      refine (List.Pairwise.imp_of_mem (R := fun a c => a ≠ c) ?_ this)
      intro a c ha hc hne y hy1 z hy2 q
      subst q
      have u1 := ch_up m hy1 (.refl ((rt a).mp ha).2)
      have u2 := ch_up m hy2 (.refl ((rt c).mp hc).2)
      exact hne (u1.det u2)
  · constructor
    · intro h
      obtain ⟨r, hr, hx⟩ := List.mem_flatten.mp h
      obtain ⟨y, hy, e⟩ := List.mem_map.mp hr
      rw [← e] at hx
      rcases ch_le m hx with q | ⟨_, q⟩
      · rw [q]; exact ((rt y).mp hy).1
      · exact q
    · intro h
      obtain ⟨r, hr, u⟩ := up_ex m _ x (Nat.le_refl _) h
      exact List.mem_flatten.mpr ⟨_, List.mem_map.mpr ⟨r, (rt r).mpr ⟨hr, u.root⟩, rfl⟩, up_ch m u (ends r)⟩
theorem roots_len (m : MOk B U T) : (rootsN U T).length + T.length = U.length := by
  have h1 : (U.filter fun x => (lk T x).isSome).Perm (T.map (·.1)) := by
    refine (List.perm_ext_iff_of_nodup (m.nU.filter _) m.k).mpr fun x => ?_
    rw [List.mem_filter]
    constructor
    · rintro ⟨_, h⟩
      obtain ⟨v, h⟩ := Option.isSome_iff_exists.mp h
      exact List.mem_map.mpr ⟨_, lk_mem h, rfl⟩
    · intro h
      obtain ⟨p, hp, e⟩ := List.mem_map.mp h
      refine ⟨e ▸ m.ku p hp, ?_⟩
      obtain ⟨v, h⟩ := lk_some h
      rw [h]; rfl
  have h2 := h1.length_eq
  rw [List.length_map] at h2
  have h3 := filter_split (fun x => (lk T x).isNone) U
  have h4 : (U.filter fun x => !(lk T x).isNone) = U.filter fun x => (lk T x).isSome := by
    apply List.filter_congr
    intro x _
    cases lk T x <;> rfl
  rw [h4] at h3
  show ((U.filter fun x => (lk T x).isNone).length + T.length = U.length)
  omega
/-! ### no antichain is longer than chains are many -/
def Anti (B : Nat → Nat → Bool) (A : List Nat) : Prop := A.Pairwise fun x y => B x y = false ∧ B y x = false
def Chains (B : Nat → Nat → Bool) (R : List (List Nat)) : Prop := ∀ r ∈ R, ∀ x ∈ r, ∀ y ∈ r, x = y ∨ B x y = true ∨ B y x = true
theorem one_of {A r : List Nat} (hA : Anti B A) (hn : A.Nodup) (hr : ∀ x ∈ r, ∀ y ∈ r, x = y ∨ B x y = true ∨ B y x = true) : (A.filter fun x => decide (x ∈ r)).length ≤ 1 := by
  have h1 : Anti B (A.filter fun x => decide (x ∈ r)) := hA.filter _
  have h2 : (A.filter fun x => decide (x ∈ r)).Nodup := hn.filter _
  have h3 : ∀ x ∈ A.filter fun x => decide (x ∈ r), x ∈ r := fun x hx => by simpa using (List.mem_filter.mp hx).2
  rcases hq : A.filter fun x => decide (x ∈ r) with _ | ⟨x, _ | ⟨y, t⟩⟩
  · simp
  · simp
  · rw [hq] at h1 h2 h3
    have a1 := (List.pairwise_cons.mp h1).1 y (by simp)
    have a2 := (List.nodup_cons.mp h2).1
    rcases hr x (h3 x (by simp)) y (h3 y (by simp)) with e | e | e
    · exact absurd (by rw [e]; simp) a2
    · rw [a1.1] at e; cases e
    · rw [a1.2] at e; cases e
theorem anti_le : ∀ {R : List (List Nat)} {A : List Nat}, Chains B R → Anti B A → A.Nodup → (∀ x ∈ A, x ∈ R.flatten) → A.length ≤ R.length
  | [], A, _, _, _, h => by
    cases A with
    | nil => simp
    | cons x A => exact absurd (h x (by simp)) (by simp)
  | r :: R, A, hR, hA, hn, h => by
    have h1 := one_of hA hn (hR r (by simp))
    have h2 : (A.filter fun x => !decide (x ∈ r)).length ≤ R.length := anti_le (fun r hr => hR r (by simp [hr])) (hA.filter _) (hn.filter _) fun x hx => by
      obtain ⟨h3, h4⟩ := List.mem_filter.mp hx
      have := h x h3
      rw [List.flatten_cons, List.mem_append] at this
      rcases this with q | q
      · simp [q] at h4
      · exact q
    have h3 := filter_split (fun x => decide (x ∈ r)) A
    rw [List.length_cons]
    omega
theorem pw_cmp {r : List Nat} (h : r.Pairwise fun a c => B c a = true) : ∀ x ∈ r, ∀ y ∈ r, x = y ∨ B x y = true ∨ B y x = true := by
  induction r with
  | nil => intro x hx; cases hx
  | cons z r ih =>
    rw [List.pairwise_cons] at h
    intro x hx y hy
    rcases List.mem_cons.mp hx with e1 | hx
    · rcases List.mem_cons.mp hy with e2 | hy
      · exact .inl (e1.trans e2.symm)
      · rw [e1]; exact .inr (.inr (h.1 y hy))
    · rcases List.mem_cons.mp hy with e2 | hy
      · rw [e2]; exact .inr (.inl (h.1 x hx))
      · exact ih h.2 x hx y hy
/-! ### what is reached from the unmatched -/
structure Reach (B : Nat → Nat → Bool) (U : List Nat) (T : NM) (A H : List Nat) : Prop where
  i : ∀ x ∈ U, x ∉ T.map (·.2) → x ∈ A
  d : ∀ x ∈ A, ∀ o ∈ U, B o x = true → o ∈ H
  b : ∀ o ∈ H, ∃ t, lk T o = some t ∧ t ∈ A
def heldN (U A H : List Nat) : List Nat := U.filter fun x => decide (x ∈ A) && !decide (x ∈ H)
theorem held_anti {A H : List Nat} (m : MOk B U T) (r : Reach B U T A H) : ∀ x ∈ heldN U A H, ∀ y ∈ heldN U A H, B x y = false := fun x hx y hy => by
  simp only [heldN, List.mem_filter, Bool.and_eq_true, decide_eq_true_eq, Bool.not_eq_true', decide_eq_false_iff_not] at hx hy
  cases e : B x y with
  | false => rfl
  | true => exact absurd (r.d y hy.2.1 x hx.1 e) hx.2.2
theorem held_len {A H : List Nat} (m : MOk B U T) (r : Reach B U T A H) : (rootsN U T).length ≤ (heldN U A H).length := by
  have h0 := roots_len m
  -- those not held
  have h1 : (U.filter fun x => !(decide (x ∈ A) && !decide (x ∈ H))).length ≤ T.length := by
    -- to each its pair: if it is in H the one it keys, else the one it is a value of
    have key : ∀ x ∈ (U.filter fun x => !(decide (x ∈ A) && !decide (x ∈ H))), (x ∈ H ∧ x ∈ T.map (·.1)) ∨ (x ∉ A ∧ x ∈ T.map (·.2)) := fun x hx => by
      simp only [List.mem_filter, Bool.not_eq_true', Bool.and_eq_false_iff, decide_eq_false_iff_not, Bool.not_eq_false', decide_eq_true_eq] at hx
      by_cases h : x ∈ H
      · obtain ⟨t, h2, _⟩ := r.b x h
        exact .inl ⟨h, List.mem_map.mpr ⟨_, lk_mem h2, rfl⟩⟩
      · have ha : x ∉ A := hx.2.elim id fun q => absurd q h
        refine .inr ⟨ha, ?_⟩
        by_cases q : x ∈ T.map (·.2)
        · exact q
        · exact absurd (r.i x hx.1 q) ha
    have l1 : (T.filter fun p => decide (p.1 ∈ H)).length + (T.filter fun p => !decide (p.1 ∈ H)).length = T.length := (filter_split (fun p => decide (p.1 ∈ H)) T).symm
    have sub : ∀ x ∈ (U.filter fun x => !(decide (x ∈ A) && !decide (x ∈ H))), x ∈ (T.filter fun p => decide (p.1 ∈ H)).map (·.1) ++ (T.filter fun p => !decide (p.1 ∈ H)).map (·.2) := fun x hx => by
      rcases key x hx with ⟨h, h2⟩ | ⟨h, h2⟩
      · obtain ⟨p, hp, e⟩ := List.mem_map.mp h2
        exact List.mem_append.mpr (.inl (List.mem_map.mpr ⟨p, List.mem_filter.mpr ⟨hp, by rw [e]; simpa using h⟩, e⟩))
      · obtain ⟨p, hp, e⟩ := List.mem_map.mp h2
        refine List.mem_append.mpr (.inr (List.mem_map.mpr ⟨p, List.mem_filter.mpr ⟨hp, ?_⟩, e⟩))
        simp only [Bool.not_eq_true', decide_eq_false_iff_not]
        intro q
        obtain ⟨t, h3, h4⟩ := r.b _ q
        rw [lk_of m.k hp] at h3
        cases h3
        exact h (e ▸ h4)
    have nf : (U.filter fun x => !(decide (x ∈ A) && !decide (x ∈ H))).Nodup := m.nU.filter _
    have := nf.length_le_of_subset sub
    rw [List.length_append, List.length_map, List.length_map] at this
    omega
  have h2 := filter_split (fun x => decide (x ∈ A) && !decide (x ∈ H)) U
  show _ ≤ (U.filter fun x => decide (x ∈ A) && !decide (x ∈ H)).length
  omega
end
end Wx

namespace Wx
open PySem PySem.Spec PyProof.Rows L2
/-! ### dicts with whole numbers as keys, as data -/
def kvF {α : Type} (f : α → PyData) (T : List (Nat × α)) : List (Key × PyData) := T.map fun p => (.inl (p.1 : Int), f p.2)
/-- .. whose values are True -/
def kvS (S : List Nat) : List (Key × PyData) := S.map fun x : Nat => ((.inl (x : Int) : Key), PyData.bool true)
theorem inl_nat {x y : Nat} : ((Sum.inl (x : Int) : Key) = Sum.inl (y : Int)) = (x = y) := propext ⟨fun h => by injection h with h; omega, fun h => by rw [h]⟩
@[simp] theorem kvF_len {α : Type} {f : α → PyData} {T : List (Nat × α)} : (kvF f T).length = T.length := by simp [kvF]
@[simp] theorem kvS_len {S : List Nat} : (kvS S).length = S.length := by simp [kvS]
theorem kvF_nil {α : Type} {f : α → PyData} : kvF f ([] : List (Nat × α)) = [] := rfl
theorem kvS_nil : kvS [] = [] := rfl
@[simp] theorem lookK_kv {α : Type} {f : α → PyData} {T : List (Nat × α)} {x : Nat} : lookK (kvF f T) (.inl (x : Int)) = (lk T x).map f := by
  induction T with
  | nil => rfl
  | cons p T ih =>
    rw [lk_cons]
    unfold lookK kvF at *
    rw [List.map_cons, List.find?_cons]
    by_cases h : p.1 = x
    · subst h; simp
    · have : ¬ ((Sum.inl (p.1 : Int) : Key) = Sum.inl (x : Int)) := by rw [inl_nat]; exact h
      simp only [this, decide_false]
      rw [ih, if_neg h]
@[simp] theorem putD_kv {α : Type} {f : α → PyData} {T : List (Nat × α)} {x : Nat} {v : α} : putD (kvF f T) (.inl (x : Int)) (f v) = kvF f (put T x v) := by
  have e : ((kvF f T).any fun kv => decide (kv.1 = (.inl (x : Int) : Key))) = T.any fun p => decide (p.1 = x) := by
    unfold kvF
    rw [List.any_map]
    congr 1
    funext p
    simp only [Function.comp, inl_nat]
  unfold putD put
  rw [e]
  split
  · unfold kvF
    rw [List.map_map, List.map_map]
    apply List.map_congr_left
    intro p _
    simp only [Function.comp, inl_nat]
    split <;> rfl
  · unfold kvF
    simp
@[simp] theorem lookK_S {S : List Nat} {x : Nat} : lookK (kvS S) (.inl (x : Int)) = if x ∈ S then some (.bool true) else none := by
  induction S with
  | nil => rfl
  | cons y S ih =>
    unfold lookK kvS at *
    rw [List.map_cons, List.find?_cons]
    by_cases h : y = x
    · subst h; simp
    · have : ¬ ((Sum.inl (y : Int) : Key) = Sum.inl (x : Int)) := by rw [inl_nat]; exact h
      have h2 : ¬ x = y := fun e => h e.symm
      simp only [this, decide_false]
      rw [ih]
      simp [h2]
def addS (S : List Nat) (x : Nat) : List Nat := if x ∈ S then S else S ++ [x]
theorem addS_mem {S : List Nat} {x y : Nat} : y ∈ addS S x ↔ y ∈ S ∨ y = x := by
  unfold addS
  by_cases h : x ∈ S
  · rw [if_pos h]
    exact ⟨.inl, fun q => q.elim id fun e => e ▸ h⟩
  · rw [if_neg h]
    simp
theorem addS_len {S : List Nat} {x : Nat} : (addS S x).length ≤ S.length + 1 := by
  unfold addS
  split <;> simp
theorem addS_new {S : List Nat} {x : Nat} (h : x ∉ S) : addS S x = S ++ [x] := if_neg h
@[simp] theorem putD_S {S : List Nat} {x : Nat} : putD (kvS S) (.inl (x : Int)) (.bool true) = kvS (addS S x) := by
  have e : ((kvS S).any fun kv => decide (kv.1 = (.inl (x : Int) : Key))) = decide (x ∈ S) := by
    unfold kvS
    rw [List.any_map, Bool.eq_iff_iff, List.any_eq_true]
    simp only [Function.comp, inl_nat, decide_eq_true_eq]
    exact ⟨fun ⟨y, h, e⟩ => (show y = x by simpa [inl_nat, Int.ofNat_inj] using e) ▸ h, fun h => ⟨x, h, rfl⟩⟩
  unfold putD addS
  rw [e]
  by_cases h : x ∈ S
  · simp only [h, decide_true, if_true]
    unfold kvS
    rw [List.map_map]
    apply List.map_congr_left
    intro y _
    simp only [Function.comp, inl_nat]
    split <;> rfl
  · simp only [h, decide_false, if_false]
    unfold kvS
    simp
@[simp] theorem kvF_keys {α : Type} {f : α → PyData} {T : List (Nat × α)} : (kvF f T).map (fun p => kD p.1) = (T.map (·.1)).map natI := by
  unfold kvF
  rw [List.map_map, List.map_map]
  rfl
@[simp] theorem kvS_keys {S : List Nat} : (kvS S).map (fun p => kD p.1) = S.map natI := by
  unfold kvS
  rw [List.map_map]
  rfl
@[simp] theorem asKey_nat {x : Nat} {R : Key → Prop} : asKey (.int (x : Int)) R = R (.inl (x : Int)) := propext ⟨fun ⟨k, e, h⟩ => by rw [← kD_inj (a := .inl (x : Int)) e] at h; exact h, fun h => ⟨_, rfl, h⟩⟩
/-! ### a bolt's order -/
def dnB (b : List Cell) (v : Nat) : List Nat := (membersL b).filter fun o => beneathB b o v
def downsB (b : List Cell) : List (Nat × List Nat) := (membersL b).map fun v => (v, dnB b v)
def takersB (b : List Cell) : NM := tkGo (dnB b) 20 (membersL b) []
theorem downs_keys {b : List Cell} : (downsB b).map (·.1) = membersL b := by
  unfold downsB
  rw [List.map_map]
  exact List.map_id _
theorem downs_lk {b : List Cell} {v : Nat} (h : v ∈ membersL b) : lk (downsB b) v = some (dnB b v) := by
  have : ∀ xs : List Nat, v ∈ xs → lk (xs.map fun v => (v, dnB b v)) v = some (dnB b v) := fun xs => by
    induction xs with
    | nil => intro h; cases h
    | cons x xs ih =>
      intro h
      rw [List.map_cons, lk_cons]
      by_cases e : x = v
      · subst e; simp
      · rw [if_neg e]
        rcases List.mem_cons.mp h with q | q
        · exact absurd q.symm e
        · exact ih q
  exact this _ h
theorem dn_sub {b : List Cell} {v o : Nat} (h : o ∈ dnB b v) : o ∈ membersL b := (List.mem_filter.mp h).1
theorem members_nd {n : Nat} {b : List Cell} (h : Sized n b) (hn : n ≤ 12) : (membersL b).Nodup := by
  unfold membersL
  refine nd_app ?_ fun q => ?_
  · exact List.Pairwise.filter _ List.nodup_range
  · have := needed_lt h q
    omega
theorem members13 {n : Nat} {b : List Cell} (h : Sized n b) (hn : n ≤ 12) : (membersL b).length ≤ 13 := by
  unfold membersL neededL
  rw [List.length_append, List.length_singleton]
  have := List.length_filter_le (isNeeded b) (List.range (potsB b))
  rw [List.length_range] at this
  have : potsB b ≤ n := by
    cases b with
    | nil => exact Nat.zero_le _
    | cons c b => exact Nat.le_of_eq (h.2.2 c (by simp)).1
  omega
theorem takers_best {n : Nat} {b : List Cell} (h : Sized n b) (hn : n ≤ 12) : Best (dnB b) (membersL b) (takersB b) := by
  have := tk_best (dn := dnB b) (n := 20) (members_nd h hn) (fun v o ho => dn_sub ho) (by have := members13 h hn; omega) (membersL b) [] [] (by simpa using members_nd h hn) best_nil
  simpa [takersB] using this
theorem takers_ok {n : Nat} {b : List Cell} (h : Sized n b) (hn : n ≤ 12) : MOk (beneathB b) (membersL b) (takersB b) where
  tr := beneath_trans
  irr := fun _ => bIrr
  nU := members_nd h hn
  k := (takers_best h hn).k
  v := (takers_best h hn).v
  e := fun p hp => by have := (takers_best h hn).e p hp; simpa using (List.mem_filter.mp this).2
  ku := fun p hp => dn_sub ((takers_best h hn).e p hp)
  vu := (takers_best h hn).p
theorem nd_le {T : NM} {U : List Nat} (h : (T.map (·.1)).Nodup) (hu : ∀ p ∈ T, p.1 ∈ U) : T.length ≤ U.length := by
  have := h.length_le_of_subset (l₂ := U) fun x hx => by
    obtain ⟨p, hp, e⟩ := List.mem_map.mp hx
    exact e ▸ hu p hp
  rwa [List.length_map] at this
/-- the stretches: the one that ends with now, without it, then the others -/
def nextsB (b : List Cell) : NM := swapN (takersB b)
def stretchB (b : List Cell) : List (List Nat) := (chF (nextsB b) 20 12).tail :: ((neededL b).filter fun x => (lk (takersB b) x).isNone).map (chF (nextsB b) 20)
theorem now_root {n : Nat} {b : List Cell} (h : Sized n b) (hn : n ≤ 12) : lk (takersB b) 12 = none := by
  cases e : lk (takersB b) 12 with
  | none => rfl
  | some v =>
    have := (takers_ok h hn).e _ (lk_mem e)
    simp [beneathB] at this
theorem roots_eq {n : Nat} {b : List Cell} (h : Sized n b) (hn : n ≤ 12) : rootsN (membersL b) (takersB b) = ((neededL b).filter fun x => (lk (takersB b) x).isNone) ++ [12] := by
  unfold rootsN membersL
  rw [List.filter_append]
  congr 1
  rw [List.filter_cons, now_root h hn]
  rfl
theorem stretch_len {n : Nat} {b : List Cell} (h : Sized n b) (hn : n ≤ 12) : (stretchB b).length = (rootsN (membersL b) (takersB b)).length := by
  rw [roots_eq h hn]
  simp [stretchB]
theorem chF_tail {N : NM} {k x : Nat} : x :: (chF N k x).tail = chF N k x := by
  obtain ⟨r, e⟩ := ch_cons (N := N) (k := k) (x := x)
  rw [e]; rfl
theorem stretch_perm {n : Nat} {b : List Cell} (h : Sized n b) (hn : n ≤ 12) : (stretchB b).flatten.Perm (neededL b) := by
  have p := chains_perm (takers_ok h hn) (k := 20) (by have := members13 h hn; omega)
  rw [roots_eq h hn, List.map_append, List.flatten_append] at p
  have p2 := (List.perm_append_comm).trans p
  simp only [List.map_cons, List.map_nil, List.flatten_cons, List.flatten_nil, List.append_nil] at p2
  rw [← chF_tail, List.cons_append] at p2
  have p3 := p2.trans (show (membersL b).Perm (12 :: neededL b) from List.perm_append_singleton _ _)
  exact List.Perm.cons_inv p3
theorem stretch_pw {n : Nat} {b : List Cell} (h : Sized n b) (hn : n ≤ 12) : (12 :: (stretchB b).head!).Pairwise (fun a c => beneathB b c a = true) ∧ ∀ r ∈ stretchB b, r.Pairwise fun a c => beneathB b c a = true := by
  have p0 : (12 :: (chF (nextsB b) 20 12).tail).Pairwise fun a c => beneathB b c a = true := by
    rw [chF_tail]
    exact ch_pw (takers_ok h hn)
  refine ⟨p0, fun r hr => ?_⟩
  unfold stretchB at hr
  rcases List.mem_cons.mp hr with e | hr
  · rw [e]; exact (List.pairwise_cons.mp p0).2
  · obtain ⟨x, _, e⟩ := List.mem_map.mp hr
    rw [← e]
    exact ch_pw (takers_ok h hn)
theorem stretch_pos {b : List Cell} : ∀ r ∈ (stretchB b).tail, r ≠ [] := fun r hr => by
  obtain ⟨x, _, e⟩ := List.mem_map.mp (show r ∈ ((neededL b).filter fun x => (lk (takersB b) x).isNone).map (chF (nextsB b) 20) from hr)
  obtain ⟨t, e2⟩ := ch_cons (N := nextsB b) (k := 20) (x := x)
  rw [← e, e2]
  simp
/-! ### lists of lists of whole numbers as cells -/
/-- at the addresses bs stand the lists T -/
def Rws (N : Mu) (bs : List Addr) (T : List (List Nat)) : Prop := Paired (fun c t => N c = some (.lst (t.map natI))) bs T
theorem Rws.set {N : Mu} {p : Addr} {o : Ob} : ∀ {bs : List Addr} {T : List (List Nat)}, Rws N bs T → (∀ c ∈ bs, c ≠ p) → Rws (N.set p o) bs T
  | _, _, .nil, _ => .nil
  | _, _, .cons h t, hp => .cons (by rw [Mu.set_ne (hp _ (by simp))]; exact h) (Rws.set t fun c hc => hp c (by simp [hc]))
theorem Rws.app {N : Mu} : ∀ {bs cs : List Addr} {T U : List (List Nat)}, Rws N bs T → Rws N cs U → Rws N (bs ++ cs) (T ++ U)
  | _, _, _, _, .nil, h => h
  | _, _, _, _, .cons h t, h2 => .cons h (Rws.app t h2)
theorem Rws.some {N : Mu} : ∀ {bs : List Addr} {T : List (List Nat)}, Rws N bs T → ∀ c ∈ bs, ∃ t ∈ T, N c = Option.some (.lst (t.map natI))
  | _, _, .nil, _, h => by cases h
  | _, _, .cons h t, c, hc => by
    rcases List.mem_cons.mp hc with e | hc
    · rw [e]; exact ⟨_, by simp, h⟩
    · obtain ⟨u, h1, h2⟩ := Rws.some t c hc
      exact ⟨u, by simp [h1], h2⟩
theorem Rws.len {N : Mu} : ∀ {bs : List Addr} {T : List (List Nat)}, Rws N bs T → bs.length = T.length
  | _, _, .nil => rfl
  | _, _, .cons _ t => by rw [List.length_cons, List.length_cons, Rws.len t]
theorem Mu.le_set {M N : Mu} {p : Addr} {o : Ob} (h : M.le N) (hp : M p = none) : M.le (N.set p o) := fun a u e => by
  rw [Mu.set_ne fun q => by rw [q, hp] at e; cases e]
  exact h a u e
theorem Mu.le_none {M N : Mu} {p : Addr} (h : M.le N) (hp : N p = none) : M p = none := by
  cases q : M p with
  | none => rfl
  | some o => rw [h p o q] at hp; cases hp
theorem Rws.rsv {N : Mu} : ∀ {bs : List Addr} {T : List (List Nat)}, Rws N bs T → RsvAll N (bs.map cellD) (T.map dN)
  | _, _, .nil => .nil
  | _, _, .cons h t => .cons (.cell h (.same _)) (Rws.rsv t)
theorem cut1 {α : List PyData} : cutD α (some 1) none = α.tail := by
  have := cut_from (α := α) (k := 0)
  rw [show (((0 : Nat) : Int) + 1) = 1 from rfl] at this
  rw [this]
  cases α <;> rfl
theorem need_eqS {n : Nat} {b : List Cell} (h : Sized n b) : needL b n = neededL b := by
  unfold needL neededL
  cases b with
  | nil =>
    rw [List.filter_eq_nil_iff.mpr (by intro a _; simp [isNeeded])]
    rfl
  | cons c b => rw [show potsB (c :: b) = n from (h.2.2 c (by simp)).1]
theorem flat_len {L : List (List Nat)} {t : List Nat} (h : t ∈ L) : t.length ≤ L.flatten.length := len_flatten h
/-- all but the first hold something -/
theorem tail_len : ∀ {L : List (List Nat)}, (∀ r ∈ L, r ≠ []) → L.length ≤ L.flatten.length
  | [], _ => Nat.le_refl _
  | r :: L, h => by
    have := tail_len (L := L) fun r hr => h r (by simp [hr])
    have := List.length_pos_iff.mpr (h r (by simp))
    rw [List.flatten_cons, List.length_append, List.length_cons]
    omega
theorem swap_done {n : Nat} {b : List Cell} (h : Sized n b) (hn : n ≤ 12) {done todo : NM} {o v : Nat} (e : takersB b = done ++ (o, v) :: todo) : put (swapN done) v o = swapN (done ++ [(o, v)]) := by
  have m := takers_ok h hn
  rw [put_new, swapN, swapN, List.map_append]
  · rfl
  · unfold swapN
    rw [List.map_map]
    have nv := m.v
    rw [e, List.map_append, List.map_cons] at nv
    intro q
    exact (List.nodup_append.mp nv).2.2 v q v (by simp) rfl
theorem takers_len {n : Nat} {b : List Cell} (h : Sized n b) (hn : n ≤ 12) : (takersB b).length ≤ 13 := by
  have m := takers_ok h hn
  have := nd_le m.k m.ku
  have := members13 h hn
  omega
theorem chain_ends {n : Nat} {b : List Cell} (h : Sized n b) (hn : n ≤ 12) (x : Nat) : chEnd (nextsB b) 20 x :=
  ch_ends (takers_ok h hn) 20 x (by
    have := List.length_filter_le (fun y => beneathB b y x) (membersL b)
    have := members13 h hn
    omega)
theorem stretch_small {n : Nat} {b : List Cell} (h : Sized n b) (hn : n ≤ 12) : (stretchB b).length ≤ 13 ∧ (∀ r ∈ stretchB b, r.length ≤ 12) := by
  have p := (stretch_perm h hn).length_eq
  have l : (neededL b).length + 1 = (membersL b).length := by simp [membersL]
  have := members13 h hn
  have := roots_len (takers_ok h hn)
  have := stretch_len h hn
  refine ⟨by omega, fun r hr => ?_⟩
  have := flat_len hr
  omega
def others (b : List Cell) (xs : List Nat) : List (List Nat) := (xs.filter fun x => !decide (x = 12) && (lk (takersB b) x).isNone).map (chF (nextsB b) 20)
theorem others_all {n : Nat} {b : List Cell} (h : Sized n b) (hn : n ≤ 12) : stretchB b = (chF (nextsB b) 20 12).tail :: others b (membersL b) := by
  unfold stretchB others membersL
  rw [List.filter_append, List.filter_cons, List.filter_nil]
  simp only [decide_true, Bool.not_true, Bool.false_and, Bool.false_eq_true, if_false, List.append_nil]
  congr 2
  apply List.filter_congr
  intro x hx
  have := needed_lt h hx
  have : x ≠ 12 := by omega
  simp [this]
theorem others_yes {b : List Cell} {x : Nat} {xs : List Nat} (h : x ≠ 12) (e : lk (takersB b) x = none) : others b (x :: xs) = chF (nextsB b) 20 x :: others b xs := by
  unfold others
  rw [List.filter_cons, if_pos (by simp [h, e])]
  rfl
theorem others_no {b : List Cell} {x : Nat} {xs : List Nat} (h : x = 12 ∨ (lk (takersB b) x).isSome = true) : others b (x :: xs) = others b xs := by
  unfold others
  rw [List.filter_cons, if_neg]
  rcases h with h | h
  · simp [h]
  · obtain ⟨v, h⟩ := Option.isSome_iff_exists.mp h
    simp [h]
theorem srt_sortedL {xs : List Nat} (h : xs.Pairwise (· ≤ ·)) : srt xs = xs := by
  have e := sorted_uniq ((srt_perm xs).map Int.ofNat) (List.pairwise_map.mpr ((srt_sorted xs).imp fun h => Int.ofNat_le.mpr h)) (List.pairwise_map.mpr (h.imp fun h => Int.ofNat_le.mpr h))
  have := congrArg (List.map Int.toNat) e
  simpa [Function.comp_def] using this
theorem srt_needed {b : List Cell} : srt (neededL b) = neededL b := srt_sortedL (List.Pairwise.filter _ (List.pairwise_lt_range.imp fun h => Nat.le_of_lt h))
theorem held_sub {U A H : List Nat} {x : Nat} (h : x ∈ heldN U A H) : x ∈ U := (List.mem_filter.mp h).1
theorem members_sorted {n : Nat} {b : List Cell} (h : Sized n b) (hn : n ≤ 12) : (membersL b).Pairwise (· ≤ ·) := by
  unfold membersL
  rw [List.pairwise_append]
  refine ⟨List.Pairwise.filter _ (List.pairwise_lt_range.imp fun h => Nat.le_of_lt h), by simp, fun x hx y hy => ?_⟩
  have := needed_lt h hx
  simp at hy
  omega
/-- no antichain is longer than the stretches are many; what is held is as long -/
theorem anti_stretch {n : Nat} {b : List Cell} (h : Sized n b) (hn : n ≤ 12) {A : List Nat} (hA : ∀ x ∈ A, ∀ y ∈ A, beneathB b x y = false) (nd : A.Nodup) (hm : ∀ x ∈ A, x ∈ membersL b) : A.length ≤ (stretchB b).length := by
  have m := takers_ok h hn
  have p := chains_perm m (k := 20) (by have := members13 h hn; omega)
  have := anti_le (B := beneathB b) (R := (rootsN (membersL b) (takersB b)).map (chF (swapN (takersB b)) 20)) (A := A) (fun r hr => by
    obtain ⟨x, _, e⟩ := List.mem_map.mp hr
    rw [← e]
    exact pw_cmp (ch_pw m)) (by
      have all : ∀ {L : List Nat}, (∀ x ∈ L, x ∈ A) → Anti (beneathB b) L := fun {L} hL => by
        induction L with
        | nil => exact List.Pairwise.nil
        | cons x L ih => exact List.Pairwise.cons (fun y hy => ⟨hA x (hL x (by simp)) y (hL y (by simp [hy])), hA y (hL y (by simp [hy])) x (hL x (by simp))⟩) (ih fun y hy => hL y (by simp [hy]))
      exact all fun _ h => h) nd (fun x hx => p.symm.subset (hm x hx))
  rw [List.length_map] at this
  rw [stretch_len h hn]
  exact this
theorem held_eq {n : Nat} {b : List Cell} (h : Sized n b) (hn : n ≤ 12) {A H : List Nat} (r : Reach (beneathB b) (membersL b) (takersB b) A H) : (heldN (membersL b) A H).length = (stretchB b).length := by
  have m := takers_ok h hn
  have h1 := held_len m r
  have h2 := anti_stretch h hn (held_anti m r) (List.Pairwise.filter _ m.nU) (fun x hx => held_sub hx)
  rw [stretch_len h hn] at h2 ⊢
  omega
theorem Rws.split {N : Mu} : ∀ {bs : List Addr} {T : List (List Nat)} {i : Nat}, Rws N bs T → i < bs.length → ∃ b1 c b2 T1 t T2, bs = b1 ++ c :: b2 ∧ T = T1 ++ t :: T2 ∧ b1.length = i ∧ T1.length = i ∧ Rws N b1 T1 ∧ N c = Option.some (.lst (t.map natI)) ∧ Rws N b2 T2
  | _, _, _, .nil, h => absurd h (Nat.not_lt_zero _)
  | c :: bs, t :: T, 0, .cons h r, _ => ⟨[], c, bs, [], t, T, rfl, rfl, rfl, rfl, .nil, h, r⟩
  | c :: bs, t :: T, i + 1, .cons h r, hi => by
    obtain ⟨b1, d, b2, T1, u, T2, h1, h2, h3, h4, h5, h6, h7⟩ := Rws.split r (Nat.lt_of_succ_lt_succ hi)
    exact ⟨c :: b1, d, b2, t :: T1, u, T2, by rw [h1]; rfl, by rw [h2]; rfl, by simp [h3], by simp [h4], .cons h h5, h6, h7⟩
end Wx

namespace Wx
open PySem PySem.Spec PyProof.Rows L2
/-! ### how many stretches: as many as clash at most -/
section
variable {n : Nat} {b : List Cell}
def boilB (b : List Cell) : List Cell := b.map fun c => ⟨c.st, false, c.ws⟩
theorem reach_ex (h : Sized n b) (hn : n ≤ 12) : ∃ A H, Reach (beneathB b) (membersL b) (takersB b) A H := by
  classical
  have best := takers_best h hn
  have m := takers_ok h hn
  refine ⟨(membersL b).filter fun x => decide (Stuck (dnB b) (takersB b) x), (membersL b).filter fun o => decide (∃ x, x ∈ membersL b ∧ Stuck (dnB b) (takersB b) x ∧ o ∈ dnB b x), fun x hx hv => ?_, fun x hx o ho hb => ?_, fun o ho => ?_⟩
  · exact List.mem_filter.mpr ⟨hx, by simpa using best.s x hx hv⟩
  · have hx := List.mem_filter.mp hx
    exact List.mem_filter.mpr ⟨ho, by simpa using ⟨x, hx.1, by simpa using hx.2, List.mem_filter.mpr ⟨ho, hb⟩⟩⟩
  · have ho := (List.mem_filter.mp ho).2
    simp only [decide_eq_true_eq] at ho
    obtain ⟨x, _, ⟨C, hC, hx⟩, hd⟩ := ho
    obtain ⟨t, ht, htC⟩ := hC o (hx o hd)
    exact ⟨t, ht, List.mem_filter.mpr ⟨m.vu _ (lk_mem ht), by simpa using ⟨C, hC, htC⟩⟩⟩
/-- a largest row of members that clash -/
theorem width_ex (h : Sized n b) (hn : n ≤ 12) : ∃ A : List Nat, A.length = (stretchB b).length ∧ A.Nodup ∧ A.Pairwise (· ≤ ·) ∧ (∀ x ∈ A, x ∈ membersL b) ∧ ∀ x ∈ A, ∀ y ∈ A, beneathB b x y = false := by
  obtain ⟨A, H, r⟩ := reach_ex h hn
  exact ⟨heldN (membersL b) A H, held_eq h hn r, List.Pairwise.filter _ (takers_ok h hn).nU, (members_sorted h hn).filter _, fun x hx => held_sub hx, held_anti (takers_ok h hn) r⟩
theorem anti_of {A : List Nat} (hA : ∀ x ∈ A, ∀ y ∈ A, beneathB b x y = false) : Anti (beneathB b) A := by
  have all : ∀ {L : List Nat}, (∀ x ∈ L, x ∈ A) → Anti (beneathB b) L := fun {L} hL => by
    induction L with
    | nil => exact List.Pairwise.nil
    | cons x L ih => exact List.Pairwise.cons (fun y hy => ⟨hA x (hL x (by simp)) y (hL y (by simp [hy])), hA y (hL y (by simp [hy])) x (hL x (by simp))⟩) (ih fun y hy => hL y (by simp [hy]))
  exact all fun _ h => h
theorem stretch_ub (h : Sized n b) (hn : n ≤ 12) {R : List (List Nat)} (hR : Chains (beneathB b) R) (hc : ∀ x ∈ membersL b, x ∈ R.flatten) : (stretchB b).length ≤ R.length := by
  obtain ⟨A, h1, h2, _, h3, h4⟩ := width_ex h hn
  rw [← h1]
  exact anti_le hR (anti_of h4) h2 fun x hx => hc x (h3 x hx)
/-- fewer clash: no more stretches -/
theorem width_mono {n' : Nat} {b' : List Cell} (h : Sized n b) (hn : n ≤ 12) (h' : Sized n' b') (hn' : n' ≤ 12) (hm : ∀ x ∈ membersL b', x ∈ membersL b) (hb : ∀ x y, beneathB b x y = true → beneathB b' x y = true ∨ beneathB b' y x = true) : (stretchB b').length ≤ (stretchB b).length := by
  obtain ⟨A, h1, h2, _, h3, h4⟩ := width_ex h' hn'
  rw [← h1]
  refine anti_stretch h hn (fun x hx y hy => ?_) h2 fun x hx => hm x (h3 x hx)
  cases e : beneathB b x y with
  | false => rfl
  | true =>
    rcases hb x y e with q | q
    · rw [h4 x hx y hy] at q; cases q
    · rw [h4 y hy x hx] at q; cases q
theorem members_mem {x : Nat} : x ∈ membersL b ↔ (x < potsB b ∧ isNeeded b x = true) ∨ x = 12 := by
  unfold membersL neededL
  simp
theorem beneath_some {b' : List Cell} (hs : ∀ c ∈ b', c ∈ b) {x y : Nat} (e : beneathB b x y = true) : beneathB b' x y = true ∨ beneathB b' y x = true := by
  unfold beneathB at e ⊢
  by_cases h1 : x = y ∨ x = 12
  · rw [if_pos h1] at e; cases e
  · rw [if_neg h1] at e ⊢
    by_cases h2 : y = 12
    · rw [if_pos h2] at e ⊢
      left
      unfold freeB at e ⊢
      rw [Bool.not_eq_true', List.any_eq_false] at e ⊢
      exact fun c hc => e c (hs c hc)
    · rw [if_neg h2] at e ⊢
      have h3 : ¬ (y = x ∨ y = 12) := fun q => q.elim (fun q => h1 (.inl q.symm)) h2
      have h4 : x ≠ 12 := fun q => h1 (.inr q)
      rw [if_neg h3, if_neg h4]
      have sub : ∀ {o p : Nat}, subB b o p = true → subB b' o p = true := fun {o p} h => by
        rw [subB_iff] at h ⊢
        exact fun c hc => h c (hs c hc)
      unfold withinB at e ⊢
      rw [Bool.and_eq_true] at e
      have e1 := sub e.1
      rw [e1]
      cases q : subB b' y x with
      | false => left; simp
      | true =>
        have : y < x ∨ x < y := Nat.lt_or_gt_of_ne fun q => h1 (.inl q.symm)
        rcases this with q | q
        · left; simp [q]
        · right; simp [q]
theorem needed_some {b' : List Cell} (hs : ∀ c ∈ b', c ∈ b) {d : Nat} (e : isNeeded b' d = true) : isNeeded b d = true := by
  unfold isNeeded at e ⊢
  rw [List.any_eq_true] at e ⊢
  obtain ⟨c, hc, e⟩ := e
  exact ⟨c, hs c hc, e⟩
theorem pots_of_mem (h : Sized n b) {c : Cell} (hc : c ∈ b) : potsB b = n := by
  cases b with
  | nil => cases hc
  | cons c b => exact (h.2.2 c (by simp)).1
theorem width_some {b' : List Cell} (h : Sized n b) (hn : n ≤ 12) (h' : Sized n b') (hs : ∀ c ∈ b', c ∈ b) : (stretchB b').length ≤ (stretchB b).length := by
  refine width_mono h hn h' hn (fun x hx => ?_) (fun x y => beneath_some hs)
  rw [members_mem] at hx ⊢
  rcases hx with ⟨h1, h2⟩ | h1
  · refine .inl ⟨?_, needed_some hs h2⟩
    cases b' with
    | nil => cases h2
    | cons c b' =>
      rw [pots_of_mem h' (c := c) (by simp)] at h1
      rw [pots_of_mem h (hs c (by simp))]
      exact h1
  · exact .inr h1
/-- the stretches tell of the order alone -/
theorem stretch_congr {b' : List Cell} (hm : neededL b = neededL b') (hb : ∀ x y, beneathB b x y = beneathB b' x y) : stretchB b = stretchB b' := by
  have h1 : membersL b = membersL b' := by unfold membersL; rw [hm]
  have h2 : dnB b = dnB b' := by
    funext v
    unfold dnB
    rw [h1]
    exact List.filter_congr fun x _ => hb x v
  have h3 : takersB b = takersB b' := by unfold takersB; rw [h1, h2]
  unfold stretchB nextsB
  rw [h3, hm]
theorem boil_any (p : Cell → Bool) (hp : ∀ c : Cell, p ⟨c.st, false, c.ws⟩ = p c) : (boilB b).any p = b.any p := by
  unfold boilB
  rw [List.any_map]
  congr 1
  funext c
  exact hp c
theorem boil_all (p : Cell → Bool) (hp : ∀ c : Cell, p ⟨c.st, false, c.ws⟩ = p c) : (boilB b).all p = b.all p := by
  unfold boilB
  rw [List.all_map]
  congr 1
  funext c
  exact hp c
theorem boil_sized (h : Sized n b) : Sized n (boilB b) := ⟨by simpa [boilB] using h.1, h.2.1, fun c hc => by
  obtain ⟨c', h', e⟩ := List.mem_map.mp hc
  rw [← e]
  exact h.2.2 c' h'⟩
theorem boil_needed : neededL (boilB b) = neededL b := by
  unfold neededL
  have : potsB (boilB b) = potsB b := by cases b <;> rfl
  rw [this]
  apply List.filter_congr
  intro d _
  exact boil_any _ fun _ => rfl
theorem boil_within {o p : Nat} : withinB (boilB b) o p = withinB b o p := by
  unfold withinB subB
  rw [boil_all _ fun _ => rfl, boil_all _ fun _ => rfl]
theorem boil_free {o : Nat} : freeB (boilB b) o = true := by
  unfold freeB boilB
  rw [List.any_map]
  simp
theorem boil_le (h : Sized n b) (hn : n ≤ 12) : (stretchB (boilB b)).length ≤ (stretchB b).length := by
  refine width_mono h hn (boil_sized h) hn (fun x hx => by unfold membersL at hx ⊢; rw [boil_needed] at hx; exact hx) fun x y e => .inl ?_
  unfold beneathB at e ⊢
  by_cases h1 : x = y ∨ x = 12
  · rw [if_pos h1] at e; cases e
  · rw [if_neg h1] at e ⊢
    by_cases h2 : y = 12
    · rw [if_pos h2]; exact boil_free
    · rw [if_neg h2] at e ⊢
      rw [boil_within]; exact e
theorem boil_ge (h : Sized n b) (hn : n ≤ 12) : (stretchB b).length ≤ (stretchB (boilB b)).length + 1 := by
  obtain ⟨A, h1, h2, _, h3, h4⟩ := width_ex h hn
  have h5 : (A.filter fun x => !decide (x = 12)).length ≤ (stretchB (boilB b)).length := by
    refine anti_stretch (boil_sized h) hn (fun x hx y hy => ?_) (List.Pairwise.filter _ h2) fun x hx => ?_
    · obtain ⟨hx, x12⟩ := List.mem_filter.mp hx
      obtain ⟨hy, y12⟩ := List.mem_filter.mp hy
      have e := h4 x hx y hy
      simp at x12 y12
      unfold beneathB at e ⊢
      by_cases h1 : x = y ∨ x = 12
      · rw [if_pos h1]
      · rw [if_neg h1] at e ⊢
        rw [if_neg y12] at e ⊢
        rw [boil_within]; exact e
    · have := h3 x (List.mem_filter.mp hx).1
      unfold membersL at this ⊢
      rw [boil_needed]; exact this
  have h6 := filter_split (fun x => decide (x = 12)) A
  have h7 : (A.filter fun x => decide (x = 12)).length ≤ 1 := by
    have : (A.filter fun x => decide (x = 12)).Nodup := List.Pairwise.filter _ h2
    have := this.length_le_of_subset (l₂ := [12]) fun x hx => by simpa using (List.mem_filter.mp hx).2
    simpa using this
  omega
end
theorem ixN_nat {m i : Nat} (h : i < m) : ixN m (i : Int) = some i := by
  unfold ixN
  rw [if_pos (by omega), if_pos (by omega)]
  simp
theorem noLs_ints {xs : List Int} : noLs (xs.map PyData.int) = true := noLs_all fun d hd => by
  obtain ⟨x, _, e⟩ := List.mem_map.mp hd
  rw [← e]; rfl
/-! ### a bolt without the wishes for a dye -/
def unC (d : Nat) (c : Cell) : Cell := ⟨c.st, c.wx, c.ws.set d (sd c.st d)⟩
def unwishB (b : List Cell) (d : Nat) : List Cell := b.map fun c => if lacksC c d = true then unC d c else c
theorem unwish_sized {n d : Nat} {b : List Cell} (h : Sized n b) : Sized n (unwishB b d) := ⟨by simpa [unwishB] using h.1, h.2.1, fun c hc => by
  obtain ⟨c', h', e⟩ := List.mem_map.mp hc
  have := h.2.2 c' h'
  rw [← e]
  split
  · exact ⟨this.1, by simpa [unC] using this.2⟩
  · exact this⟩
def easeL (b : List Cell) : List Nat := (neededL b).filter fun d => decide ((stretchB (unwishB b d)).length < (stretchB b).length)
/-! ### bolts that tell of the same order -/
/-- c lacks nothing -/
def Calm (c : Cell) : Prop := ∀ d, lacksC c d = false
structure Alike (b b' : List Cell) : Prop where
  l : ∀ c ∈ b, c ∈ b' ∨ Calm c
  r : ∀ c ∈ b', c ∈ b ∨ Calm c
theorem Alike.any {b b' : List Cell} (a : Alike b b') (p : Cell → Bool) (hp : ∀ c, Calm c → p c = false) : b.any p = b'.any p := by
  rw [Bool.eq_iff_iff, List.any_eq_true, List.any_eq_true]
  constructor
  · rintro ⟨c, hc, h⟩
    rcases a.l c hc with q | q
    · exact ⟨c, q, h⟩
    · rw [hp c q] at h; cases h
  · rintro ⟨c, hc, h⟩
    rcases a.r c hc with q | q
    · exact ⟨c, q, h⟩
    · rw [hp c q] at h; cases h
theorem Alike.all {b b' : List Cell} (a : Alike b b') (p : Cell → Bool) (hp : ∀ c, Calm c → p c = true) : b.all p = b'.all p := by
  rw [Bool.eq_iff_iff, List.all_eq_true, List.all_eq_true]
  constructor
  · intro h c hc
    rcases a.r c hc with q | q
    · exact h c q
    · exact hp c q
  · intro h c hc
    rcases a.l c hc with q | q
    · exact h c q
    · exact hp c q
theorem Alike.needed {n : Nat} {b b' : List Cell} (a : Alike b b') (h : Sized n b) (h' : Sized n b') (h0 : b ≠ []) (h0' : b' ≠ []) : neededL b = neededL b' := by
  unfold neededL
  have e : ∀ {b : List Cell}, Sized n b → b ≠ [] → potsB b = n := fun {b} h h0 => by
    cases b with
    | nil => exact absurd rfl h0
    | cons c b => exact (h.2.2 c (by simp)).1
  rw [e h h0, e h' h0']
  exact List.filter_congr fun d _ => a.any _ fun c hc => hc d
theorem Alike.beneath {b b' : List Cell} (a : Alike b b') (o p : Nat) : beneathB b o p = beneathB b' o p := by
  unfold beneathB freeB withinB subB
  rw [a.any (fun c => c.wx && lacksC c o) fun c hc => by simp [hc o], a.all (fun c => !lacksC c o || lacksC c p) fun c hc => by simp [hc o], a.all (fun c => !lacksC c p || lacksC c o) fun c hc => by simp [hc p]]
theorem Alike.stretch {n : Nat} {b b' : List Cell} (a : Alike b b') (h : Sized n b) (h' : Sized n b') (h0 : b ≠ []) (h0' : b' ≠ []) : stretchB b = stretchB b' := stretch_congr (a.needed h h' h0 h0') a.beneath
theorem Alike.perm {b b' : List Cell} (h : b.Perm b') : Alike b b' := ⟨fun c hc => .inl (h.subset hc), fun c hc => .inl (h.symm.subset hc)⟩
theorem Alike.ins {b : List Cell} {c : Cell} (j : Nat) (h : c ∈ b ∨ Calm c) : Alike (b.take j ++ (c :: b.drop j)) b := ⟨fun d hd => by
  rcases List.mem_append.mp hd with q | q
  · exact .inl (List.mem_of_mem_take q)
  · rcases List.mem_cons.mp q with q | q
    · rw [q]; exact h
    · exact .inl (List.mem_of_mem_drop q), fun d hd => .inl (by
  rw [← List.take_append_drop j b] at hd
  rcases List.mem_append.mp hd with q | q
  · simp [q]
  · simp [q])⟩
theorem ins_sized {n j : Nat} {b : List Cell} {c : Cell} (h : Sized n b) (hl : b.length ≤ 64) (hc : c.st.length = n ∧ c.ws.length = n) : Sized n (b.take j ++ (c :: b.drop j)) := ⟨by simp; omega, h.2.1, fun d hd => by
  rcases List.mem_append.mp hd with q | q
  · exact h.2.2 d (List.mem_of_mem_take q)
  · rcases List.mem_cons.mp q with q | q
    · rw [q]; exact hc
    · exact h.2.2 d (List.mem_of_mem_drop q)⟩
theorem ease_perm {n : Nat} {b b' : List Cell} (p : b.Perm b') (h : Sized n b) (h0 : b ≠ []) : easeL b = easeL b' := by
  have h' : Sized n b' := ⟨by have := h.1; rw [p.length_eq] at this; exact this, h.2.1, fun c hc => h.2.2 c (p.symm.subset hc)⟩
  have ne : ∀ {b b' : List Cell}, b.Perm b' → b ≠ [] → b' ≠ [] := fun {b b'} p h e => by
    rw [e] at p
    exact h (List.Perm.eq_nil p)
  have h0' : b' ≠ [] := ne p h0
  unfold easeL
  rw [(Alike.perm p).needed h h' h0 h0', (Alike.perm p).stretch h h' h0 h0']
  refine List.filter_congr fun d _ => ?_
  have p2 : (unwishB b d).Perm (unwishB b' d) := p.map _
  have u0 : unwishB b d ≠ [] := fun e => h0 (by simpa [unwishB] using e)
  rw [(Alike.perm p2).stretch (unwish_sized h) (unwish_sized h') u0 (ne p2 u0)]
end Wx

namespace Wx
open PySem PySem.Spec PyProof.Rows L2
/-! ### shifts, bits -/
def fShl : F2 := fII CPow fun i j => .int (i * 2 ^ j.toNat)
def fShr : F2 := fII (fun _ j => 0 ≤ j) fun i j => .int (i / 2 ^ j.toNat)
def fBand : F2 := fII CT fun i j => .int (Builtin.bitAnd i j)
section
variable {X : Cx} {W : WX} {a b : Expr} {da db : DE}
theorem q_shl (ha : QE X W a da) (hb : QE X W b db) : QE X W (.BinOp a .LShift b pos) (dOp fShl da db) := q_op op_shl (ii_ok fun _ _ _ => .int _) ha hb
theorem q_shr (ha : QE X W a da) (hb : QE X W b db) : QE X W (.BinOp a .RShift b pos) (dOp fShr da db) := q_op op_shr (ii_ok fun _ _ _ => .int _) ha hb
theorem q_band (ha : QE X W a da) (hb : QE X W b db) : QE X W (.BinOp a .BitAnd b pos) (dOp fBand da db) := q_op op_and (ii0_ok fun _ _ _ => .int _) ha hb
end
section
variable {R : PyData → Prop}
theorem bitAnd_nat {i j : Nat} : Builtin.bitAnd (i : Int) (j : Int) = ((i &&& j : Nat) : Int) := by
  simp [Builtin.bitAnd]
def pw (k : Nat) : Nat := 2 ^ k
def shr (x k : Nat) : Nat := x / 2 ^ k
def band (x v : Nat) : Nat := x &&& v
@[simp] theorem fShl_1 {k : Nat} : fShl (.int 1) (.int (k : Int)) R = (k ≤ 1000000 ∧ R (.int (pw k : Nat))) := propext ⟨fun ⟨i', j', e1, e2, ⟨_, c2, c3⟩, h⟩ => by
    cases e1; cases e2
    have h : R (.int (1 * 2 ^ k)) := h
    exact ⟨by omega, by rw [show ((pw k : Nat) : Int) = 1 * 2 ^ k by simp [pw]]; exact h⟩, fun ⟨h1, h⟩ => ⟨_, _, rfl, rfl, ⟨by omega, by omega, by decide⟩, by
    show R (.int (1 * 2 ^ k))
    rw [show ((pw k : Nat) : Int) = 1 * 2 ^ k by simp [pw]] at h; exact h⟩⟩
@[simp] theorem fShr_n {i k : Nat} : fShr (.int (i : Int)) (.int (k : Int)) R = R (.int (shr i k : Nat)) := propext ⟨fun ⟨i', j', e1, e2, _, h⟩ => by
    cases e1; cases e2
    simpa [shr] using h, fun h => ⟨_, _, rfl, rfl, by omega, by simpa [shr] using h⟩⟩
@[simp] theorem fBand_n {i k : Nat} : fBand (.int (i : Int)) (.int (k : Int)) R = R (.int (band i k : Nat)) := propext ⟨fun ⟨i', j', e1, e2, _, h⟩ => by
    cases e1; cases e2
    have e := bitAnd_nat (i := i) (j := k)
    have h : R (PyData.int (Builtin.bitAnd i k)) := h
    rw [e] at h
    exact h, fun h => ⟨_, _, rfl, rfl, trivial, by
    show R (PyData.int (Builtin.bitAnd i k))
    rw [bitAnd_nat]; exact h⟩⟩
@[simp] theorem fBand_1 {i : Nat} : fBand (.int (i : Int)) (.int 1) R = R (.int (band i 1 : Nat)) := fBand_n (k := 1)
end
/-! ### the widest row of members that clash, by bits -/
theorem two_or {k x : Nat} (h : x < 2 ^ k) : 2 ^ k + x = 2 ^ k ||| x := by
  have := Nat.two_pow_add_eq_or_of_lt h 1
  simpa using this
theorem nd_inj {S : List Nat} (nd : S.Nodup) {i j : Nat} (hi : i < S.length) (hj : j < S.length) (e : S[i] = S[j]) : i = j := by
  have p := List.pairwise_iff_getElem.mp nd
  rcases Nat.lt_trichotomy i j with q | q | q
  · exact absurd e (p i j hi hj q)
  · exact q
  · exact absurd e.symm (p j i hj hi q)
theorem bit_pair {x j k : Nat} (h : j < k) : x &&& (2 ^ k + 2 ^ j) = 2 ^ k + 2 ^ j ↔ x.testBit k = true ∧ x.testBit j = true := by
  have e : 2 ^ k + 2 ^ j = 2 ^ k ||| 2 ^ j := two_or (Nat.pow_lt_pow_right (by decide) h)
  rw [e]
  constructor
  · intro q
    have h1 := congrArg (fun y => y.testBit k) q
    have h2 := congrArg (fun y => y.testBit j) q
    simp [Nat.testBit_and, Nat.testBit_or, Nat.testBit_two_pow] at h1 h2
    exact ⟨h1, h2⟩
  · rintro ⟨h1, h2⟩
    apply Nat.eq_of_testBit_eq
    intro i
    simp only [Nat.testBit_and, Nat.testBit_or, Nat.testBit_two_pow]
    by_cases e1 : k = i
    · subst e1; simp [h1]
    · by_cases e2 : j = i
      · subst e2; simp [h2]
      · simp [e1, e2]
def bitsOf (I : Nat → Bool) : Nat → Nat
  | 0 => 0
  | m + 1 => bitsOf I m + if I m then 2 ^ m else 0
theorem bitsOf_lt {I : Nat → Bool} : ∀ m, bitsOf I m < 2 ^ m
  | 0 => by simp [bitsOf]
  | m + 1 => by
    have := bitsOf_lt (I := I) m
    unfold bitsOf
    rw [Nat.pow_succ]
    split <;> omega
theorem bitsOf_bit {I : Nat → Bool} {i : Nat} : ∀ m, (bitsOf I m).testBit i = (decide (i < m) && I i)
  | 0 => by simp [bitsOf]
  | m + 1 => by
    have ih := bitsOf_bit (I := I) (i := i) m
    have lt := bitsOf_lt (I := I) m
    unfold bitsOf
    by_cases h : I m = true
    · rw [if_pos h, Nat.add_comm, two_or lt, Nat.testBit_or, ih, Nat.testBit_two_pow]
      by_cases e : m = i
      · subst e; simp [h]
      · have : decide (i < m + 1) = decide (i < m) := by rw [Bool.eq_iff_iff]; simp; omega
        simp [e, this]
    · rw [if_neg h, Nat.add_zero, ih]
      by_cases e : m = i
      · subst e; simp [h]
      · have : decide (i < m + 1) = decide (i < m) := by rw [Bool.eq_iff_iff]; simp; omega
        rw [this]
theorem bit_iff {x i : Nat} : (x / 2 ^ i &&& 1 = 1) ↔ x.testBit i = true := by
  rw [Nat.and_one_is_mod, Nat.testBit_eq_decide_div_mod_eq]
  simp
/-- the item at i -/
def nth (S : List Nat) (i : Nat) : Nat := (S[i]?).getD 0
def pairsK (b : List Cell) (S : List Nat) (k : Nat) (js : List Nat) : List Nat := (js.filter fun j => !clashB b (nth S k) (nth S j)).map fun j => 2 ^ k + 2 ^ j
def pairsF (b : List Cell) (S : List Nat) (ks : List Nat) : List Nat := ks.flatMap fun k => pairsK b S k (List.range k)
def okP (b : List Cell) (S : List Nat) (x : Nat) : Bool := !(pairsF b S (List.range S.length)).any fun v => decide (x &&& v = v)
def popc (m x : Nat) : Nat := ((List.range m).filter fun i => x.testBit i).length
theorem pairs_mem {b : List Cell} {S : List Nat} {v : Nat} : v ∈ pairsF b S (List.range S.length) ↔ ∃ j k, j < k ∧ k < S.length ∧ clashB b (nth S k) (nth S j) = false ∧ v = 2 ^ k + 2 ^ j := by
  unfold pairsF pairsK
  rw [List.mem_flatMap]
  constructor
  · rintro ⟨k, hk, hv⟩
    obtain ⟨j, hj, e⟩ := List.mem_map.mp hv
    obtain ⟨h1, h2⟩ := List.mem_filter.mp hj
    exact ⟨j, k, by simpa using h1, by simpa using hk, by simpa using h2, e.symm⟩
  · rintro ⟨j, k, h1, h2, h3, e⟩
    exact ⟨k, by simpa using h2, List.mem_map.mpr ⟨j, List.mem_filter.mpr ⟨by simpa using h1, by simp [h3]⟩, e.symm⟩⟩
theorem nth_mem {S : List Nat} {i : Nat} (h : i < S.length) : nth S i ∈ S := by
  unfold nth
  simp [h]
theorem okP_iff {b : List Cell} {S : List Nat} {x : Nat} : okP b S x = true ↔ ∀ j k, j < k → k < S.length → x.testBit k = true → x.testBit j = true → clashB b (nth S k) (nth S j) = true := by
  unfold okP
  rw [Bool.not_eq_true', List.any_eq_false]
  constructor
  · intro h j k h1 h2 h3 h4
    cases e : clashB b (nth S k) (nth S j) with
    | true => rfl
    | false =>
      have := h _ (pairs_mem.mpr ⟨j, k, h1, h2, e, rfl⟩)
      simp only [decide_eq_true_eq] at this
      exact absurd ((bit_pair h1).mpr ⟨h3, h4⟩) this
  · intro h v hv
    obtain ⟨j, k, h1, h2, h3, e⟩ := pairs_mem.mp hv
    subst e
    simp only [decide_eq_true_eq]
    intro q
    obtain ⟨q1, q2⟩ := (bit_pair h1).mp q
    rw [h j k h1 h2 q1 q2] at h3
    cases h3
section
variable {n : Nat} {b : List Cell}
theorem clash_anti {x y : Nat} (h : clashB b x y = true) : x ≠ y ∧ beneathB b x y = false ∧ beneathB b y x = false := by
  unfold clashB at h
  simp at h
  exact ⟨h.1, h.2.1, h.2.2⟩
theorem wide_ub (h : Sized n b) (hn : n ≤ 12) {x : Nat} (ok : okP b (membersL b) x = true) : popc (membersL b).length x ≤ (stretchB b).length := by
  rw [okP_iff] at ok
  have nd := members_nd h hn
  have A : (((List.range (membersL b).length).filter fun i => x.testBit i).map (nth (membersL b))).length ≤ (stretchB b).length := by
    refine anti_stretch h hn ?_ ?_ ?_
    · intro p hp q hq
      obtain ⟨i, hi, e1⟩ := List.mem_map.mp hp
      obtain ⟨j, hj, e2⟩ := List.mem_map.mp hq
      obtain ⟨hi, bi⟩ := List.mem_filter.mp hi
      obtain ⟨hj, bj⟩ := List.mem_filter.mp hj
      rw [List.mem_range] at hi hj
      subst e1 e2
      rcases Nat.lt_trichotomy i j with q | q | q
      · exact (clash_anti (ok i j q hj bj bi)).2.2
      · subst q; exact bIrr
      · exact (clash_anti (ok j i q hi bi bj)).2.1
    · rw [List.Nodup, List.pairwise_map]
      have : ((List.range (membersL b).length).filter fun i => x.testBit i).Nodup := List.Pairwise.filter _ List.nodup_range
      refine List.Pairwise.imp_of_mem (fun {i j} hi hj ne e => ne ?_) this
      have hi := List.mem_range.mp (List.mem_filter.mp hi).1
      have hj := List.mem_range.mp (List.mem_filter.mp hj).1
      unfold nth at e
      simp [hi, hj] at e
      exact nd_inj nd hi hj e
    · intro p hp
      obtain ⟨i, hi, e1⟩ := List.mem_map.mp hp
      rw [← e1]
      exact nth_mem (List.mem_range.mp (List.mem_filter.mp hi).1)
  rwa [List.length_map] at A
theorem wide_ex (h : Sized n b) (hn : n ≤ 12) : ∃ x, x < 2 ^ (membersL b).length ∧ okP b (membersL b) x = true ∧ popc (membersL b).length x = (stretchB b).length := by
  obtain ⟨A, h1, h2, _, h3, h4⟩ := width_ex h hn
  have nd := members_nd h hn
  refine ⟨bitsOf (fun i => decide (nth (membersL b) i ∈ A)) (membersL b).length, bitsOf_lt _, ?_, ?_⟩
  · rw [okP_iff]
    intro j k hjk hk q1 q2
    rw [bitsOf_bit] at q1 q2
    simp at q1 q2
    have ne : nth (membersL b) k ≠ nth (membersL b) j := fun e => by
      unfold nth at e
      simp [hk, Nat.lt_trans hjk hk] at e
      have := nd_inj nd hk (Nat.lt_trans hjk hk) e
      omega
    simp [clashB, ne, h4 _ q1.2 _ q2.2, h4 _ q2.2 _ q1.2]
  · unfold popc
    rw [← h1]
    have e : ((List.range (membersL b).length).filter fun i => (bitsOf (fun i => decide (nth (membersL b) i ∈ A)) (membersL b).length).testBit i) = (List.range (membersL b).length).filter fun i => decide (nth (membersL b) i ∈ A) := by
      apply List.filter_congr
      intro i hi
      rw [bitsOf_bit]
      simp [List.mem_range.mp hi]
    rw [e]
    have e2 : (membersL b).filter (fun x => decide (x ∈ A)) = ((List.range (membersL b).length).filter fun i => decide (nth (membersL b) i ∈ A)).map (nth (membersL b)) := by
      have : membersL b = (List.range (membersL b).length).map (nth (membersL b)) := by
        apply List.ext_getElem
        · simp
        · intro i g1 g2
          simp [nth, g1]
      conv => lhs; rw [this]
      rw [List.filter_map]
      rfl
    have e3 := congrArg List.length e2
    rw [List.length_map] at e3
    rw [← e3]
    have p : ((membersL b).filter fun x => decide (x ∈ A)).Perm A := by
      refine (List.perm_ext_iff_of_nodup (List.Pairwise.filter _ nd) h2).mpr fun x => ?_
      rw [List.mem_filter]
      simp
      exact fun hx => h3 x hx
    exact p.length_eq
end
theorem atI_nth {S : List Nat} {i : Nat} (h : i < S.length) : atI (S.map natI) (i : Int) = some (natI (nth S i)) := by
  rw [atI_map h]
  simp [nth, h]
theorem pairsF_len {b : List Cell} {S : List Nat} {m : Nat} : ∀ {ks : List Nat}, (∀ k ∈ ks, k ≤ m) → (pairsF b S ks).length ≤ m * ks.length
  | [], _ => by simp [pairsF]
  | k :: ks, h => by
    have ih := pairsF_len (b := b) (S := S) (ks := ks) fun k hk => h k (by simp [hk])
    have h1 : (pairsK b S k (List.range k)).length ≤ m := by
      unfold pairsK
      rw [List.length_map]
      have := List.length_filter_le (fun j => !clashB b (nth S k) (nth S j)) (List.range k)
      rw [List.length_range] at this
      exact Nat.le_trans this (h k (by simp))
    unfold pairsF at ih ⊢
    rw [List.flatMap_cons, List.length_append, List.length_cons, Nat.mul_succ]
    omega
theorem pairsK_len {b : List Cell} {S : List Nat} {k : Nat} {js : List Nat} : (pairsK b S k js).length ≤ js.length := by
  unfold pairsK
  rw [List.length_map]
  exact List.length_filter_le _ _
end Wx

namespace Wx
open PySem PySem.Spec PyProof.Rows L2

/-! ### instances of the program's own classes: fields, methods, making -/
/-- a class, the names of its fields -/
structure ClK (K : PySem.W.Frag) (C : Str) (fl : List Str) : Prop where
  c : Cls K (He.ga K C)
  n : ∀ f ∈ fl, NoAttr K (He.ga K C) f
theorem noat_nil {K : PySem.W.Frag} {C : Str} : ∀ f ∈ ([] : List Str), NoAttr K (He.ga K C) f := fun _ h => nomatch h
theorem noat_cons {K : PySem.W.Frag} {C x : Str} {fl : List Str} (h : NoAttr K (He.ga K C) x) (r : ∀ f ∈ fl, NoAttr K (He.ga K C) f) : ∀ f ∈ x :: fl, NoAttr K (He.ga K C) f := fun f hf => by
  rcases List.mem_cons.mp hf with e | e
  · rw [e]; exact h
  · exact r f e
/-- the fields of an instance of C, frozen or a cell -/
def insM (M : Mu) (C : Str) (d : PyData) (P : List (Str × PyData) → Prop) : Prop := match celM M d with
  | some (.ins C' fs) => C' = C ∧ P fs
  | some _ => False
  | none => ∃ fs, d = insD C fs ∧ P fs
theorem insM_at {K : PySem.W.Frag} {bx : Option Bx} {G : Gm} {H : Hp} (wo : Wo K bx G H) {v : V} {d : PyData} {C : Str} {P : List (Str × PyData) → Prop} (r : Rp K G v d) (h : insM G.M C d P) :
    ∃ a dx vs fs, v = .ref a ∧ H a = some (.ins (He.ga K C) dx vs) ∧ RpF K G vs fs ∧ P fs := by
  unfold insM at h
  split at h
  · rename_i C' fs hc
    obtain ⟨a, ex, hm⟩ := celM_some hc
    subst ex
    have ev := r.cell_inv
    subst ev
    obtain ⟨⟨dx, vs, h1, h2⟩, _, _⟩ := wo.c a _ hm
    obtain ⟨e, hP⟩ := h
    subst e
    exact ⟨a, dx, vs, fs, rfl, h1, h2, hP⟩
  · exact h.elim
  · obtain ⟨fs, e, hP⟩ := h
    subst e
    obtain ⟨a, dx, vs, ev, h1, h2⟩ := r.ins_inv
    exact ⟨a, dx, vs, fs, ev, wo.s _ _ h1, h2, hP⟩
/-- o.f -/
def dFld (C f : Str) (de : DE) : DE := fun E R Xn => de E (fun d M => insM M C d fun fs => ∃ v, fs.lookup f = some v ∧ R v M) Xn
section
variable {X : Cx} {W : WX} {pos p apos cpos p2 : Pos} {e o : Expr} {es : List Expr} {da : DA} {de dob : DE}
theorem q_fld {C f : Str} {fl : List Str} (c : ClK X.K C fl) (he : QE X W e de) (hf : f ∈ fl := by simp) (hb : attributeBase e f X.env (eval e X.env) = eval e X.env := by rfl) : QE X W (.Attribute e f pos) (dFld C f de) :=
  pe_imp (pe_fld he hb) fun σ H Q ⟨P, R, Xn, S, h, k, kx⟩ =>
  ⟨P, _, Xn, S, h, fun v G1 H1 d e1 S1 r1 h1 => by
    obtain ⟨a, dx, vs, fs, ev, h2, h3, w, hl, hR⟩ := insM_at S1.w r1 h1
    obtain ⟨u, hu, ru⟩ := h3.lookup hl
    exact ⟨a, _, dx, vs, u, ev, h2, c.c, c.n f hf, hu, k u G1 H1 w e1 S1 ru hR⟩, kx⟩
end
/-! stores -/
def putFD (f : Str) (v : PyData) : List (Str × PyData) → List (Str × PyData)
  | [] => [(f, v)]
  | (g, x) :: r => if g = f then (g, v) :: r else (g, x) :: putFD f v r
theorem RpF.put {K : PySem.W.Frag} {G : Hp} {f : Str} {v : V} {d : PyData} (rv : Rp K G v d) : ∀ {vs : List (Str × V)} {fs : List (Str × PyData)}, RpF K G vs fs → RpF K G (putF f v vs) (putFD f d fs)
  | _, _, .nil => .cons rv .nil
  | _, _, .cons (k := g) r t => by
    unfold putF putFD
    by_cases h : g = f
    · rw [if_pos h, if_pos h]; exact .cons rv t
    · rw [if_neg h, if_neg h]; exact .cons r (RpF.put rv t)
def dFldS (C f : Str) (dob de : DE) : DS := fun R E => de E (fun d => dob E (fun x M => ∃ a fs, x = cellD a ∧ M a = some (.ins C fs) ∧ fs.length < 1000 ∧ R.nx E (M.set a (.ins C (putFD f d fs)))) (fun x => R.ex x E)) (fun x => R.ex x E)
section
variable {X : Cx} {W : WX} {pos p apos cpos p2 pos' : Pos} {e o : Expr} {es : List Expr} {da : DA} {de dob : DE}
theorem s_fld {C f : Str} {fl : List Str} (c : ClK X.K C fl) (ho : QE X W o dob) (he : QE X W e de) (hf : f ∈ fl := by simp) (hs : swapsWith e (some (.Attribute o f pos')) pos.line X.env = pure false := by rfl) : QS X W (.Assign [.Attribute o f pos'] e pos) (dFldS C f dob de) :=
  ps_imp (ps_fld ho he hs) fun D σ H ⟨P, R, S, h, L⟩ =>
  ⟨P, _, _, S, h, fun v G1 H1 d e1 S1 r1 h1 => ⟨P.go G1, _, _, S1, h1, fun w G2 H2 x e2 S2 r2 ⟨a, fs, ex, hm, hl, hR⟩ => by
    subst ex
    have ev := r2.cell_inv
    subst ev
    obtain ⟨⟨dx, vs, c1, c2⟩, _, _⟩ := S2.w.c a _ hm
    refine ⟨a, _, dx, vs, rfl, c1, c.c, c.n f hf, by rw [c2.length]; exact hl, ?_⟩
    obtain ⟨e3, w3⟩ := Ext.cell S2.w hm (o := .ins _ dx (putF f v vs)) (ob' := .ins C (putFD f d fs)) ⟨dx, _, upd_same, c2.put (r1.up e2.g)⟩
    exact L.nx ⟨G2.G, G2.M.set a (.ins C (putFD f d fs))⟩ _ σ P.E (S2.ext e3 w3) hR, L.err⟩, L.err⟩
end
/-! ### methods -/
/-- a receiver and the arguments -/
def dRecv (C m : Str) (dob : DE) (da : DA) : DA := fun E R Xn => dob E (fun d M => insM M C d fun fs => fs.lookup m = none ∧ da E (fun as M => R (.dat d :: as) M) Xn M) Xn
def tRecv (C : Addr) (m : Str) (ta : TE) (t : TA) : TA := fun σ H Q => ta σ H fun x H1 => ∃ a dx fs, x = .ref a ∧ H1 a = some (.ins C dx fs) ∧ fs.lookup m = none ∧ t σ H1 fun vs H2 => Q (x :: vs) H2
theorem RpF.none {K : PySem.W.Frag} {G : Hp} {f : Str} : ∀ {vs : List (Str × V)} {fs : List (Str × PyData)}, RpF K G vs fs → fs.lookup f = none → vs.lookup f = none
  | _, _, .nil, _ => rfl
  | _, _, .cons (k := g) r t, h => by
    rw [List.lookup_cons] at h ⊢
    cases e : f == g with
    | true => rw [e] at h; cases h
    | false => rw [e] at h; exact RpF.none t h
section
variable {X : Cx} {W : WX} {C m : Str} {dob : DE} {da : DA}
theorem lift_recv {K : PySem.W.Frag} {σ : L2.St} {H : Hp} {Q : List V → Hp → Prop} (h : liftA K W (dRecv C m dob da) σ H Q) : tRecv (He.ga K C) m (liftE K W dob) (liftA K W da) σ H Q := by
  obtain ⟨P, R, Xn, S, h, k, kx⟩ := h
  refine ⟨P, _, Xn, S, h, fun v G1 H1 d e1 S1 r1 h1 => ?_, kx⟩
  obtain ⟨a, dx, vs, fs, ev, h2, h3, hn, hR⟩ := insM_at S1.w r1 h1
  exact ⟨a, dx, vs, ev, h2, h3.none hn, P.go G1, _, Xn, S1, hR, fun us G2 H2 as e2 S2 r2 h4 => k (v :: us) G2 H2 (.dat d :: as) (e1.trans e2) S2 (.cons (r1.up e2.g) r2) h4, kx⟩
end
/-- a method as it stands behind the top -/
structure MethAt (P : Program) (w : World) (K : PySem.W.Frag) (mg : Str → Option Value) (base : Heap) (CX : CXT) (k : Nat) (C m : Str) (ps : List Str) (sp : Sp) : Prop where
  ok : ∃ f fd, Cls K (He.ga K C) ∧ Meth K (He.ga K C) m f ∧ FnOk P w K mg base CX k f fd ps sp ∧ Binds K fd ps []
/-- o.m(..), what it raises told -/
def tMethS (C : Addr) (m : Str) (sp : Sp) (E : L2.St → XK) (ta : TE) (t : TA) : TE := fun σ H Q => ta σ H fun x H1 => ∃ a dx fs, x = .ref a ∧ H1 a = some (.ins C dx fs) ∧ fs.lookup m = none ∧ t σ H1 fun vs H2 => sp (x :: vs) H2 Q (E σ)
section
variable {X : Cx} {CX : CXT} {k : Nat} {f C : Addr} {fd : FuncData} {ps : List Str} {sp : Sp} {E : L2.St → XK} {m : Str} {apos pos : Pos} {o e : Expr} {es : List Expr} {ta : TE} {t : TA}
theorem pe_methSt {pl : Sem Bool} (he : PE X o ta) (c : Cls X.K C) (hm : Meth X.K C m f) (F : FnOk X.prog X.w X.K X.mg X.base CX k f fd ps sp) (hr : Room k X.A) (hb : Binds X.K fd ps []) (hx : ∀ σ, PassesAt CX X σ (E σ)) (ha : PA X (e :: es) t)
    (hst : starEach (e :: es) X.env = (false, eval e X.env) :: starEach es X.env := by rfl) (hpl : (backTo pos (starEach es X.env)).any (·.1) = false := by rfl)
    (ht : eval (.Call (.Attribute o m apos) (e :: es) [] pos) X.env = (do
      let ov ← eval o X.env
      standAt apos.atName
      let (f, first) ← holding [ov] (getMethod ov m pl)
      callWith pos f first (backTo pos (starEach (e :: es) X.env)) (backToKw pos (keywordEach [] X.env))) := by rfl) :
    PE X (.Call (.Attribute o m apos) (e :: es) [] pos) (tMethS C m sp E ta t) := by
  refine ⟨fun pins s σ H Q I h => ?_⟩
  refine PySem.W.methodCall_KW (pl := pl) (thn (he.run pins s σ H _ I h) fun u s1 ⟨x, H1, I1, rx, a, dx, fs, ex, ea, l, q⟩ => ?_) ht
  subst ex
  obtain rfl : u = Value.ref a := rx
  refine getmeth_ok I1 ea c hm l ?_
  refine PySem.W.callWith_K (first := [.ref a]) (h₀ := X.base) I.ok.mod.kin hm.kp (thn (ha.run pos pins s1 σ H1 _ I1 q) fun us s2 ⟨vs, H2, I2, r, q2⟩ => ⟨I2.kIn, ?_⟩) hst hpl
  exact run_fnS (us := .ref a :: us) (vs := .ref a :: vs) F hr hb (hx σ) I2 (.cons rfl r) q2
theorem pe_methSt0 {pl : Sem Bool} (he : PE X o ta) (c : Cls X.K C) (hm : Meth X.K C m f) (F : FnOk X.prog X.w X.K X.mg X.base CX k f fd ps sp) (hr : Room k X.A) (hb : Binds X.K fd ps []) (hx : ∀ σ, PassesAt CX X σ (E σ))
    (ht : eval (.Call (.Attribute o m apos) [] [] pos) X.env = (do
      let ov ← eval o X.env
      standAt apos.atName
      let (f, first) ← holding [ov] (getMethod ov m pl)
      callWith pos f first (backTo pos (starEach [] X.env)) (backToKw pos (keywordEach [] X.env))) := by rfl) :
    PE X (.Call (.Attribute o m apos) [] [] pos) (tMethS C m sp E ta tNil) := by
  refine ⟨fun pins s σ H Q I h => ?_⟩
  refine PySem.W.methodCall_KW (pl := pl) (thn (he.run pins s σ H _ I h) fun u s1 ⟨x, H1, I1, rx, a, dx, fs, ex, ea, l, q⟩ => ?_) ht
  subst ex
  obtain rfl : u = Value.ref a := rx
  refine getmeth_ok I1 ea c hm l ?_
  exact PySem.W.callWith_K0 (first := [.ref a]) I1.kIn hm.kp (run_fnS (us := [.ref a]) (vs := [.ref a]) F hr hb (hx σ) I1 (.cons rfl .nil) q)
end
/-! a def that tells of cells and hands back a list of its caller's own -/
abbrev DSpMO := List En → (List PyData → Mu → Prop) → (Er → Mu → Prop) → Mu → Prop
def spMO (K : PySem.W.Frag) (sp : DSpMO) : Sp := fun vs H Q E => ∃ (bx : Option Bx) (G : Gm) (as : List En) (R : List PyData → Mu → Prop) (Xn : Er → Mu → Prop), Wo K bx G H ∧ ArgsOk K bx G vs as ∧ sp as R Xn G.M ∧
  (∀ p xs (G' : Gm) H' ds, Ext bx G H G' H' → Wo K bx G' H' → H p = none → G' p = none → G'.M p = none → H' p = some (.lst xs) → RpAll K G' xs ds → R ds G'.M → Q (.ref p) H') ∧ ErSM K bx G H Xn E
def dCallMF (sp : DSpMO) (da : DA) : DF := fun E R Xn => da E (fun as => sp as R XF) Xn
def dCallMXF (sp : DSpMO) (da : DA) : DF := fun E R Xn => da E (fun as => sp as R Xn) Xn
theorem lift_callMF {K : PySem.W.Frag} {W : WX} {sm : DSpMO} {da : DA} {σ : L2.St} {H : Hp} {Q : VK} (h : liftF K W (dCallMF sm da) σ H Q) : tCall (spMO K sm) [] E0 (liftA K W da) σ H Q := by
  obtain ⟨P, R, Xn, S, h, k, kx⟩ := h
  refine ⟨P, _, Xn, S, h, fun vs G1 H1 as e1 S1 r1 h1 => ?_, kx⟩
  show spMO K sm (vs ++ []) H1 Q E0
  rw [List.append_nil]
  exact ⟨P.bx, G1, as, R, XF, S1.w, r1, h1, fun p xs G' H' ds e2 w2 hp gp mp hx rr hR => k p xs G' H' ds (e1.trans e2) (S1.ext e2 w2) (e1.none_of hp) gp mp hx rr hR, fun _ _ _ _ _ _ _ _ f => f.elim⟩
theorem lift_callMXF {K : PySem.W.Frag} {W : WX} {sm : DSpMO} {da : DA} {σ : L2.St} {H : Hp} {Q : VK} (h : liftF K W (dCallMXF sm da) σ H Q) : tCallS (spMO K sm) (WE W) (liftA K W da) σ H Q := by
  obtain ⟨P, R, Xn, S, h, k, kx⟩ := h
  exact ⟨P, _, Xn, S, h, fun vs G1 H1 as e1 S1 r1 h1 => ⟨P.bx, G1, as, R, Xn, S1.w, r1, h1, fun p xs G' H' ds e2 w2 hp gp mp hx rr hR => k p xs G' H' ds (e1.trans e2) (S1.ext e2 w2) (e1.none_of hp) gp mp hx rr hR, fun x cls dd G' H' e2 w2 er hx => kx x cls dd G' H' (S1.ext e2 w2) er hx⟩, kx⟩
section
variable {X : Cx} {W : WX} {pos p apos : Pos} {e o : Expr} {es : List Expr} {da : DA} {dob : DE} {x C m : Str} {k k0 : Nat} {ps : List Str} {sp : DSp} {sq : DSpF} {sm : DSpM} {so : DSpMO} {CX : CXT}
theorem f_callM (F : DefAt X.prog X.w X.K X.mg X.base CX k0 x ps (spMO X.K so)) (hr : Room k X.A) (hq : Quiet CX X) (ha : QA X W (e :: es) da) (hk : k0 ≤ k := by decide) (hg : Gl X x := by rfl) (hdb : (x == ("__debug__" : Str)) = false := by decide) (he : starEach (e :: es) X.env = (false, eval e X.env) :: starEach es X.env := by rfl) (hpl : (backTo pos (starEach es X.env)).any (·.1) = false := by rfl) :
    QF X W (.Call (.Name x p) (e :: es) [] pos) (dCallMF so da) := by
  obtain ⟨fd, F, b, kp, gl⟩ := F.ok
  exact pe_imp (pe_call F (hr.mono hk) hg gl kp b .nil hq ha hdb he hpl) fun _ _ _ => lift_callMF
theorem f_callMX (F : DefAt X.prog X.w X.K X.mg X.base (L2.CX X.prog X.w) k0 x ps (spMO X.K so)) (hr : Room k X.A) (tk : Takes X W) (ha : QA X W (e :: es) da) (hk : k0 ≤ k := by decide) (hg : Gl X x := by rfl) (hdb : (x == ("__debug__" : Str)) = false := by decide) (he : starEach (e :: es) X.env = (false, eval e X.env) :: starEach es X.env := by rfl) (hpl : (backTo pos (starEach es X.env)).any (·.1) = false := by rfl) :
    QF X W (.Call (.Name x p) (e :: es) [] pos) (dCallMXF so da) := by
  obtain ⟨fd, F, b, kp, gl⟩ := F.ok
  exact pe_imp (pe_callS F (hr.mono hk) hg gl kp b (fun σ => passAt tk σ) ha hdb he hpl) fun _ _ _ => lift_callMXF
/-! method calls: .. with arguments, without; X: what they raise goes on -/
theorem me_ok {sp : Sp} {t : TE} (F : MethAt X.prog X.w X.K X.mg X.base CX k0 C m ps sp) (hr : Room k X.A) (hq : Quiet CX X) (ho : QE X W o dob) (ha : QA X W (e :: es) da) (hk : k0 ≤ k) (he : starEach (e :: es) X.env = (false, eval e X.env) :: starEach es X.env) (hpl : (backTo pos (starEach es X.env)).any (·.1) = false)
    {pl : Sem Bool} (ht : eval (.Call (.Attribute o m apos) (e :: es) [] pos) X.env = (do
      let ov ← eval o X.env
      standAt apos.atName
      let (f, first) ← holding [ov] (getMethod ov m pl)
      callWith pos f first (backTo pos (starEach (e :: es) X.env)) (backToKw pos (keywordEach [] X.env))))
    (l : ∀ σ H Q, t σ H Q → tCall sp [] E0 (liftA X.K W (dRecv C m dob da)) σ H Q) : PE X (.Call (.Attribute o m apos) (e :: es) [] pos) t := by
  obtain ⟨f, fd, c, hm, F, b⟩ := F.ok
  exact pe_imp (pe_meth ho c hm F (hr.mono hk) b .nil hq ha he hpl ht) fun σ H Q h => lift_recv (l σ H Q h)
theorem me_ok0 {sp : Sp} {t : TE} (F : MethAt X.prog X.w X.K X.mg X.base CX k0 C m ps sp) (hr : Room k X.A) (hq : Quiet CX X) (ho : QE X W o dob) (hk : k0 ≤ k)
    {pl : Sem Bool} (ht : eval (.Call (.Attribute o m apos) [] [] pos) X.env = (do
      let ov ← eval o X.env
      standAt apos.atName
      let (f, first) ← holding [ov] (getMethod ov m pl)
      callWith pos f first (backTo pos (starEach [] X.env)) (backToKw pos (keywordEach [] X.env))))
    (l : ∀ σ H Q, t σ H Q → tCall sp [] E0 (liftA X.K W (dRecv C m dob dNil)) σ H Q) : PE X (.Call (.Attribute o m apos) [] [] pos) t := by
  obtain ⟨f, fd, c, hm, F, b⟩ := F.ok
  exact pe_imp (pe_meth0 ho c hm F (hr.mono hk) b .nil hq ht) fun σ H Q h => by
    obtain ⟨P, R, Xn, S, h, kk, kx⟩ := lift_recv (l σ H Q h)
    refine ⟨P, R, Xn, S, h, fun v G1 H1 d e1 S1 r1 h1 => ?_, kx⟩
    obtain ⟨a, dx, fs, q1, q2, q3, P2, R2, Xn2, S2, q4, k2, kx2⟩ := kk v G1 H1 d e1 S1 r1 h1
    exact ⟨a, dx, fs, q1, q2, q3, k2 [] P2.G H1 [] Ext.refl S2 .nil q4⟩
theorem mx_ok {sp : Sp} {t : TE} (F : MethAt X.prog X.w X.K X.mg X.base (L2.CX X.prog X.w) k0 C m ps sp) (hr : Room k X.A) (tk : Takes X W) (ho : QE X W o dob) (ha : QA X W (e :: es) da) (hk : k0 ≤ k) (he : starEach (e :: es) X.env = (false, eval e X.env) :: starEach es X.env) (hpl : (backTo pos (starEach es X.env)).any (·.1) = false)
    {pl : Sem Bool} (ht : eval (.Call (.Attribute o m apos) (e :: es) [] pos) X.env = (do
      let ov ← eval o X.env
      standAt apos.atName
      let (f, first) ← holding [ov] (getMethod ov m pl)
      callWith pos f first (backTo pos (starEach (e :: es) X.env)) (backToKw pos (keywordEach [] X.env))))
    (l : ∀ σ H Q, t σ H Q → tCallS sp (WE W) (liftA X.K W (dRecv C m dob da)) σ H Q) : PE X (.Call (.Attribute o m apos) (e :: es) [] pos) t := by
  obtain ⟨f, fd, c, hm, F, b⟩ := F.ok
  exact pe_imp (pe_methSt ho c hm F (hr.mono hk) b (fun σ => passAt tk σ) ha he hpl ht) fun σ H Q h => lift_recv (l σ H Q h)
theorem mx_ok0 {sp : Sp} {t : TE} (F : MethAt X.prog X.w X.K X.mg X.base (L2.CX X.prog X.w) k0 C m ps sp) (hr : Room k X.A) (tk : Takes X W) (ho : QE X W o dob) (hk : k0 ≤ k)
    {pl : Sem Bool} (ht : eval (.Call (.Attribute o m apos) [] [] pos) X.env = (do
      let ov ← eval o X.env
      standAt apos.atName
      let (f, first) ← holding [ov] (getMethod ov m pl)
      callWith pos f first (backTo pos (starEach [] X.env)) (backToKw pos (keywordEach [] X.env))))
    (l : ∀ σ H Q, t σ H Q → tCallS sp (WE W) (liftA X.K W (dRecv C m dob dNil)) σ H Q) : PE X (.Call (.Attribute o m apos) [] [] pos) t := by
  obtain ⟨f, fd, c, hm, F, b⟩ := F.ok
  exact pe_imp (pe_methSt0 ho c hm F (hr.mono hk) b (fun σ => passAt tk σ) ht) fun σ H Q h => by
    obtain ⟨P, R, Xn, S, h, kk, kx⟩ := lift_recv (l σ H Q h)
    refine ⟨P, R, Xn, S, h, fun v G1 H1 d e1 S1 r1 h1 => ?_, kx⟩
    obtain ⟨a, dx, fs, q1, q2, q3, P2, R2, Xn2, S2, q4, k2, kx2⟩ := kk v G1 H1 d e1 S1 r1 h1
    exact ⟨a, dx, fs, q1, q2, q3, k2 [] P2.G H1 [] Ext.refl S2 .nil q4⟩
end
section
variable {X : Cx} {W : WX} {pos p apos : Pos} {e o : Expr} {es : List Expr} {da : DA} {dob : DE} {x C m : Str} {k k0 : Nat} {ps : List Str} {sp : DSp} {sq : DSpF} {sm : DSpM} {so : DSpMO} {CX : CXT} {pl : Sem Bool}
theorem m_f (F : MethAt X.prog X.w X.K X.mg X.base CX k0 C m ps (spF X.K sp)) (hr : Room k X.A) (hq : Quiet CX X) (ho : QE X W o dob) (ha : QA X W (e :: es) da) (hk : k0 ≤ k := by decide) (he : starEach (e :: es) X.env = (false, eval e X.env) :: starEach es X.env := by rfl) (hpl : (backTo pos (starEach es X.env)).any (·.1) = false := by rfl)
    (ht : eval (.Call (.Attribute o m apos) (e :: es) [] pos) X.env = (do
      let ov ← eval o X.env
      standAt apos.atName
      let (f, first) ← holding [ov] (getMethod ov m pl)
      callWith pos f first (backTo pos (starEach (e :: es) X.env)) (backToKw pos (keywordEach [] X.env))) := by rfl) : QE X W (.Call (.Attribute o m apos) (e :: es) [] pos) (dCall sp (dRecv C m dob da)) := me_ok F hr hq ho ha hk he hpl ht fun _ _ _ => lift_call
theorem m_o (F : MethAt X.prog X.w X.K X.mg X.base CX k0 C m ps (spO X.K sq)) (hr : Room k X.A) (hq : Quiet CX X) (ho : QE X W o dob) (ha : QA X W (e :: es) da) (hk : k0 ≤ k := by decide) (he : starEach (e :: es) X.env = (false, eval e X.env) :: starEach es X.env := by rfl) (hpl : (backTo pos (starEach es X.env)).any (·.1) = false := by rfl)
    (ht : eval (.Call (.Attribute o m apos) (e :: es) [] pos) X.env = (do
      let ov ← eval o X.env
      standAt apos.atName
      let (f, first) ← holding [ov] (getMethod ov m pl)
      callWith pos f first (backTo pos (starEach (e :: es) X.env)) (backToKw pos (keywordEach [] X.env))) := by rfl) : QF X W (.Call (.Attribute o m apos) (e :: es) [] pos) (dCallF sq (dRecv C m dob da)) := me_ok F hr hq ho ha hk he hpl ht fun _ _ _ => lift_callF
theorem m_m (F : MethAt X.prog X.w X.K X.mg X.base CX k0 C m ps (spM X.K sm)) (hr : Room k X.A) (hq : Quiet CX X) (ho : QE X W o dob) (ha : QA X W (e :: es) da) (hk : k0 ≤ k := by decide) (he : starEach (e :: es) X.env = (false, eval e X.env) :: starEach es X.env := by rfl) (hpl : (backTo pos (starEach es X.env)).any (·.1) = false := by rfl)
    (ht : eval (.Call (.Attribute o m apos) (e :: es) [] pos) X.env = (do
      let ov ← eval o X.env
      standAt apos.atName
      let (f, first) ← holding [ov] (getMethod ov m pl)
      callWith pos f first (backTo pos (starEach (e :: es) X.env)) (backToKw pos (keywordEach [] X.env))) := by rfl) : QE X W (.Call (.Attribute o m apos) (e :: es) [] pos) (dCallM sm (dRecv C m dob da)) := me_ok F hr hq ho ha hk he hpl ht fun _ _ _ => lift_callM
theorem m_mo (F : MethAt X.prog X.w X.K X.mg X.base CX k0 C m ps (spMO X.K so)) (hr : Room k X.A) (hq : Quiet CX X) (ho : QE X W o dob) (ha : QA X W (e :: es) da) (hk : k0 ≤ k := by decide) (he : starEach (e :: es) X.env = (false, eval e X.env) :: starEach es X.env := by rfl) (hpl : (backTo pos (starEach es X.env)).any (·.1) = false := by rfl)
    (ht : eval (.Call (.Attribute o m apos) (e :: es) [] pos) X.env = (do
      let ov ← eval o X.env
      standAt apos.atName
      let (f, first) ← holding [ov] (getMethod ov m pl)
      callWith pos f first (backTo pos (starEach (e :: es) X.env)) (backToKw pos (keywordEach [] X.env))) := by rfl) : QF X W (.Call (.Attribute o m apos) (e :: es) [] pos) (dCallMF so (dRecv C m dob da)) := me_ok F hr hq ho ha hk he hpl ht fun _ _ _ => lift_callMF
theorem m_f0 (F : MethAt X.prog X.w X.K X.mg X.base CX k0 C m ps (spF X.K sp)) (hr : Room k X.A) (hq : Quiet CX X) (ho : QE X W o dob) (hk : k0 ≤ k := by decide)
    (ht : eval (.Call (.Attribute o m apos) [] [] pos) X.env = (do
      let ov ← eval o X.env
      standAt apos.atName
      let (f, first) ← holding [ov] (getMethod ov m pl)
      callWith pos f first (backTo pos (starEach [] X.env)) (backToKw pos (keywordEach [] X.env))) := by rfl) : QE X W (.Call (.Attribute o m apos) [] [] pos) (dCall sp (dRecv C m dob dNil)) := me_ok0 F hr hq ho hk ht fun _ _ _ => lift_call
theorem m_o0 (F : MethAt X.prog X.w X.K X.mg X.base CX k0 C m ps (spO X.K sq)) (hr : Room k X.A) (hq : Quiet CX X) (ho : QE X W o dob) (hk : k0 ≤ k := by decide)
    (ht : eval (.Call (.Attribute o m apos) [] [] pos) X.env = (do
      let ov ← eval o X.env
      standAt apos.atName
      let (f, first) ← holding [ov] (getMethod ov m pl)
      callWith pos f first (backTo pos (starEach [] X.env)) (backToKw pos (keywordEach [] X.env))) := by rfl) : QF X W (.Call (.Attribute o m apos) [] [] pos) (dCallF sq (dRecv C m dob dNil)) := me_ok0 F hr hq ho hk ht fun _ _ _ => lift_callF
theorem m_m0 (F : MethAt X.prog X.w X.K X.mg X.base CX k0 C m ps (spM X.K sm)) (hr : Room k X.A) (hq : Quiet CX X) (ho : QE X W o dob) (hk : k0 ≤ k := by decide)
    (ht : eval (.Call (.Attribute o m apos) [] [] pos) X.env = (do
      let ov ← eval o X.env
      standAt apos.atName
      let (f, first) ← holding [ov] (getMethod ov m pl)
      callWith pos f first (backTo pos (starEach [] X.env)) (backToKw pos (keywordEach [] X.env))) := by rfl) : QE X W (.Call (.Attribute o m apos) [] [] pos) (dCallM sm (dRecv C m dob dNil)) := me_ok0 F hr hq ho hk ht fun _ _ _ => lift_callM
theorem m_mo0 (F : MethAt X.prog X.w X.K X.mg X.base CX k0 C m ps (spMO X.K so)) (hr : Room k X.A) (hq : Quiet CX X) (ho : QE X W o dob) (hk : k0 ≤ k := by decide)
    (ht : eval (.Call (.Attribute o m apos) [] [] pos) X.env = (do
      let ov ← eval o X.env
      standAt apos.atName
      let (f, first) ← holding [ov] (getMethod ov m pl)
      callWith pos f first (backTo pos (starEach [] X.env)) (backToKw pos (keywordEach [] X.env))) := by rfl) : QF X W (.Call (.Attribute o m apos) [] [] pos) (dCallMF so (dRecv C m dob dNil)) := me_ok0 F hr hq ho hk ht fun _ _ _ => lift_callMF
theorem m_fX (F : MethAt X.prog X.w X.K X.mg X.base (L2.CX X.prog X.w) k0 C m ps (spF X.K sp)) (hr : Room k X.A) (tk : Takes X W) (ho : QE X W o dob) (ha : QA X W (e :: es) da) (hk : k0 ≤ k := by decide) (he : starEach (e :: es) X.env = (false, eval e X.env) :: starEach es X.env := by rfl) (hpl : (backTo pos (starEach es X.env)).any (·.1) = false := by rfl)
    (ht : eval (.Call (.Attribute o m apos) (e :: es) [] pos) X.env = (do
      let ov ← eval o X.env
      standAt apos.atName
      let (f, first) ← holding [ov] (getMethod ov m pl)
      callWith pos f first (backTo pos (starEach (e :: es) X.env)) (backToKw pos (keywordEach [] X.env))) := by rfl) : QE X W (.Call (.Attribute o m apos) (e :: es) [] pos) (dCallX sp (dRecv C m dob da)) := mx_ok F hr tk ho ha hk he hpl ht fun _ _ _ => lift_callX
theorem m_mX (F : MethAt X.prog X.w X.K X.mg X.base (L2.CX X.prog X.w) k0 C m ps (spM X.K sm)) (hr : Room k X.A) (tk : Takes X W) (ho : QE X W o dob) (ha : QA X W (e :: es) da) (hk : k0 ≤ k := by decide) (he : starEach (e :: es) X.env = (false, eval e X.env) :: starEach es X.env := by rfl) (hpl : (backTo pos (starEach es X.env)).any (·.1) = false := by rfl)
    (ht : eval (.Call (.Attribute o m apos) (e :: es) [] pos) X.env = (do
      let ov ← eval o X.env
      standAt apos.atName
      let (f, first) ← holding [ov] (getMethod ov m pl)
      callWith pos f first (backTo pos (starEach (e :: es) X.env)) (backToKw pos (keywordEach [] X.env))) := by rfl) : QE X W (.Call (.Attribute o m apos) (e :: es) [] pos) (dCallMX sm (dRecv C m dob da)) := mx_ok F hr tk ho ha hk he hpl ht fun _ _ _ => lift_callMX
theorem m_moX (F : MethAt X.prog X.w X.K X.mg X.base (L2.CX X.prog X.w) k0 C m ps (spMO X.K so)) (hr : Room k X.A) (tk : Takes X W) (ho : QE X W o dob) (ha : QA X W (e :: es) da) (hk : k0 ≤ k := by decide) (he : starEach (e :: es) X.env = (false, eval e X.env) :: starEach es X.env := by rfl) (hpl : (backTo pos (starEach es X.env)).any (·.1) = false := by rfl)
    (ht : eval (.Call (.Attribute o m apos) (e :: es) [] pos) X.env = (do
      let ov ← eval o X.env
      standAt apos.atName
      let (f, first) ← holding [ov] (getMethod ov m pl)
      callWith pos f first (backTo pos (starEach (e :: es) X.env)) (backToKw pos (keywordEach [] X.env))) := by rfl) : QF X W (.Call (.Attribute o m apos) (e :: es) [] pos) (dCallMXF so (dRecv C m dob da)) := mx_ok F hr tk ho ha hk he hpl ht fun _ _ _ => lift_callMXF
theorem m_mX0 (F : MethAt X.prog X.w X.K X.mg X.base (L2.CX X.prog X.w) k0 C m ps (spM X.K sm)) (hr : Room k X.A) (tk : Takes X W) (ho : QE X W o dob) (hk : k0 ≤ k := by decide)
    (ht : eval (.Call (.Attribute o m apos) [] [] pos) X.env = (do
      let ov ← eval o X.env
      standAt apos.atName
      let (f, first) ← holding [ov] (getMethod ov m pl)
      callWith pos f first (backTo pos (starEach [] X.env)) (backToKw pos (keywordEach [] X.env))) := by rfl) : QE X W (.Call (.Attribute o m apos) [] [] pos) (dCallMX sm (dRecv C m dob dNil)) := mx_ok0 F hr tk ho hk ht fun _ _ _ => lift_callMX
theorem m_moX0 (F : MethAt X.prog X.w X.K X.mg X.base (L2.CX X.prog X.w) k0 C m ps (spMO X.K so)) (hr : Room k X.A) (tk : Takes X W) (ho : QE X W o dob) (hk : k0 ≤ k := by decide)
    (ht : eval (.Call (.Attribute o m apos) [] [] pos) X.env = (do
      let ov ← eval o X.env
      standAt apos.atName
      let (f, first) ← holding [ov] (getMethod ov m pl)
      callWith pos f first (backTo pos (starEach [] X.env)) (backToKw pos (keywordEach [] X.env))) := by rfl) : QF X W (.Call (.Attribute o m apos) [] [] pos) (dCallMXF so (dRecv C m dob dNil)) := mx_ok0 F hr tk ho hk ht fun _ _ _ => lift_callMXF
end
theorem Mu.le_noneI {N M : Mu} {p : Addr} (l : N.le M) (h : M p = none) : N p = none := by
  cases q : N p with
  | none => rfl
  | some ob => rw [l p ob q] at h; cases h
section
variable {P : Program} {w : World} {K : PySem.W.Frag} {mg : Str → Option Value} {base : Heap} {x q : Str} {params : Arguments} {body : List Stmt} {scope : Scope} {f : Addr} {fd : FuncData} {N ps : List Str} {k : Nat} {ds : DS}
abbrev PurMO (ds : DS) (n : Nat) (sp : DSpMO) : Prop := ∀ as R Xn M, sp as R Xn M → ds { nx := fun _ _ => False, ro := fun d M => ∃ N : Mu, N.le M ∧ R d N } (startE n as) M
abbrev PurXMO (ds : DS) (n : Nat) (sp : DSpMO) : Prop := ∀ as R Xn M, sp as R Xn M → ds { nx := fun _ _ => False, ro := fun d M => ∃ N : Mu, N.le M ∧ R d N, ex := fun x _ M => ∃ N : Mu, N.le M ∧ Xn x N } (startE n as) M
theorem mkMO {sp : DSpMO} (F : FunD K x q params body scope [] [] f fd) (S : FnScope N ps scope) (len : ∀ as R Xn M, sp as R Xn M → as.length = ps.length)
    (hb : ∀ (cdv : Value) (A : Around) (outer : List Env) (s : Shared) (H : Hp) (E : XK), Room k (A.deeper (envOfC q scope s.heap.objs.size f cdv)) → QSs (cxOf CX0 P w K mg base N q scope f cdv A outer s H E).nox WF body ds)
    (pure : PurMO ds N.length sp) : FnOk P w K mg base CX0 (k + 1) f fd ps (spMO K sp) :=
  F.ok S (fun vs H Q E ⟨_, G, as, R, Xn, _, r, h, _⟩ => (argsOk_len r).trans (len as R Xn G.M h)) fun cdv A outer s H vs Q E hr ⟨bx, G, as, R, Xn, wo, r, h, k, kx⟩ =>
  ⟨_, (hb cdv A outer s H E hr).nox, ⟨bx, G, H, G, startE N.length as⟩, _, start_ok wo r, pure as R Xn G.M h,
    ⟨fun _ _ _ _ _ f => f.elim, fun _ _ _ _ _ _ _ f => f.elim, fun p xs G' H' ds e w hp gp mp hx rr ⟨N, l, h⟩ => k p xs ⟨G'.G, N⟩ H' ds (e.less l) (w.less l) hp gp (Mu.le_noneI l mp) hx rr h, fun _ _ _ _ _ f => f.elim, fun _ _ _ _ _ f => f.elim, fun _ _ _ _ _ _ _ _ _ f => f.elim⟩⟩
theorem mkXMO {sp : DSpMO} (F : FunD K x q params body scope [] [] f fd) (S : FnScope N ps scope) (len : ∀ as R Xn M, sp as R Xn M → as.length = ps.length)
    (hb : ∀ (cdv : Value) (A : Around) (outer : List Env) (s : Shared) (H : Hp) (E : XK), Room k (A.deeper (envOfC q scope s.heap.objs.size f cdv)) → QSs (cxOf (L2.CX P w) P w K mg base N q scope f cdv A outer s H E) (WD E) body ds)
    (pure : PurXMO ds N.length sp) : FnOk P w K mg base (L2.CX P w) (k + 1) f fd ps (spMO K sp) :=
  F.ok S (fun vs H Q E ⟨_, G, as, R, Xn, _, r, h, _⟩ => (argsOk_len r).trans (len as R Xn G.M h)) fun cdv A outer s H vs Q E hr ⟨bx, G, as, R, Xn, wo, r, h, k, kx⟩ =>
  ⟨_, hb cdv A outer s H E hr, ⟨bx, G, H, G, startE N.length as⟩, _, start_ok wo r, pure as R Xn G.M h,
    ⟨fun _ _ _ _ _ f => f.elim, fun _ _ _ _ _ _ _ f => f.elim, fun p xs G' H' ds e w hp gp mp hx rr ⟨N, l, h⟩ => k p xs ⟨G'.G, N⟩ H' ds (e.less l) (w.less l) hp gp (Mu.le_noneI l mp) hx rr h, fun _ _ _ _ _ f => f.elim, fun _ _ _ _ _ f => f.elim, fun x cls dd G' H' σ E s er ⟨N, l, h⟩ => kx x cls dd ⟨G'.G, N⟩ H' (s.x.less l) (s.w.less l) er h⟩⟩
end
/-! ### making -/
/-- C(..): a new instance, a cell without fields that __init__ fills -/
def dMake (C : Str) (sm : DSpM) (da : DA) : DE := fun E R Xn => da E (fun as M => ∀ a, M a = none → sm (.dat (cellD a) :: as) (fun d M' => d = .none ∧ R (cellD a) M') XF (M.set a (.ins C []))) Xn
structure MakeAt (P : Program) (w : World) (K : PySem.W.Frag) (mg : Str → Option Value) (base : Heap) (k : Nat) (C : Str) (ps : List Str) (sp : Sp) : Prop where
  ok : ∃ f fd, Mk K (He.ga K C) f ∧ FnOk P w K mg base CX0 k f fd ps sp ∧ Binds K fd ps [] ∧ mg C = some (.ref (He.ga K C))
section
variable {X : Cx} {W : WX} {pos p : Pos} {e : Expr} {es : List Expr} {da : DA} {C : Str} {k k0 : Nat} {ps : List Str} {sm : DSpM}
theorem lift_make {K : PySem.W.Frag} {σ : L2.St} {H : Hp} {Q : VK} (h : liftE K W (dMake C sm da) σ H Q) : tMake (He.ga K C) (spM K sm) [] E0 (liftA K W da) σ H Q := by
  obtain ⟨P, R, Xn, S, h, k, kx⟩ := h
  refine ⟨P, _, Xn, S, h, fun vs G1 H1 as e1 S1 r1 h1 => ?_, kx⟩
  intro x dx hx hdx ne
  show spM K sm (.ref x :: (vs ++ [])) _ _ _
  rw [List.append_nil]
  have en : Gro G1.G H1 G1.G (upd H1 dx (.own x)) := Gro.own hdx
  have S2 := S1.pure en (same_own S1.w.s hdx)
  have hx2 : upd H1 dx (.own x) x = none := by rw [upd_ne (Ne.symm ne)]; exact hx
  have en3 : Gro G1.G (upd H1 dx (.own x)) G1.G (upd (upd H1 dx (.own x)) x (.ins (He.ga K C) dx [])) := Gro.own hx2
  have S3 := S2.pure en3 (same_own S2.w.s hx2)
  have S4 := S3.newCell (p := x) (ob := .ins C []) (S1.x.none_of hx) (S1.w.s.free hx) (S1.w.m_none hx) (S1.w.off hx) upd_same ⟨dx, [], upd_same, .nil⟩ (fun j es q hσ => S1.no_own hx j es q hσ)
  have e4 : Ext P.bx G1 H1 ⟨G1.G, G1.M.set x (.ins C [])⟩ (upd (upd H1 dx (.own x)) x (.ins (He.ga K C) dx [])) := Ext.newCell (G1 := ⟨G1.G, G1.M⟩) (en.any.trans en3.any) hx
  refine ⟨P.bx, ⟨G1.G, G1.M.set x (.ins C [])⟩, .dat (cellD x) :: as, _, XF, S4.w, .cons .of_cel r1, h1 x (S1.w.m_none hx), fun v G' H' d e2 w2 r2 ⟨ed, hR⟩ => ?_, fun _ _ _ _ _ _ _ _ f => f.elim⟩
  subst ed
  cases r2
  exact ⟨rfl, k (.ref x) G' H' _ (e1.trans (e4.trans e2)) (S4.ext e2 w2) .of_cel hR⟩
theorem q_make (F : MakeAt X.prog X.w X.K X.mg X.base k0 C ps (spM X.K sm)) (hr : Room k X.A) (ha : QA X W (e :: es) da) (hk : k0 + 1 ≤ k := by decide) (hg : Gl X C := by rfl) (hdb : (C == ("__debug__" : Str)) = false := by decide) (he : starEach (e :: es) X.env = (false, eval e X.env) :: starEach es X.env := by rfl) (hpl : (backTo pos (starEach es X.env)).any (·.1) = false := by rfl) :
    QE X W (.Call (.Name C p) (e :: es) [] pos) (dMake C sm da) := by
  obtain ⟨f, fd, M, F, b, gl⟩ := F.ok
  exact pe_imp (pe_make M F (hr.mono hk) hg gl b .nil pass0 ha hdb he hpl) fun _ _ _ => lift_make
end
/-! ### a dict walked: locked meanwhile -/
/-- a cell, a dict, is locked while ds runs -/
def backD (a : Addr) (t : Obj × List (Key × V)) (N : Mu → Prop) : Mu → Prop := fun M => ∃ kvs, M a = some (.dct (some t) kvs) ∧ N (M.set a (.dct none kvs))
def dLockS (ds : DS) : DS := fun R E M => ∃ a kvs, M a = some (.dct none kvs) ∧ ∀ t : Obj × List (Key × V),
  ds { nx := fun E' => backD a t (R.nx E'), rt := fun d => backD a t (R.rt d), ro := fun _ _ => False, bk := fun E' => backD a t (R.bk E'), ct := fun E' => backD a t (R.ct E'), ex := fun _ _ _ => False } E (M.set a (.dct (some t) kvs))
theorem back_at {K : PySem.W.Frag} {bx : Option Bx} {G : Gm} {H : Hp} {a : Addr} {t : Obj × List (Key × V)} {N : Mu → Prop} (wo : Wo K bx G H) (h : backD a t N G.M) :
    H a = some (.frz t.1 (.dK t.2)) ∧ ∃ M', Ext bx G H ⟨G.G, M'⟩ (upd H a (.dK t.2)) ∧ Wo K bx ⟨G.G, M'⟩ (upd H a (.dK t.2)) ∧ N M' := by
  obtain ⟨kvs, hm, hN⟩ := h
  obtain ⟨⟨h1, h2⟩, _, _⟩ := wo.c a _ hm
  obtain ⟨e, w⟩ := Ext.cell wo hm (o := .dK t.2) (ob' := .dct none kvs) ⟨t.2, upd_same, h2⟩
  exact ⟨h1, _, e, w, hN⟩
theorem s_lock {X : Cx} {W : WX} {st : Stmt} {ds : DS} (h : QS X W st ds) : QS X W st (dLockS ds) := ps_imp (ps_lock h) fun D σ H ⟨P, R, S, ⟨a, kvs, hm, h⟩, L⟩ => by
  obtain ⟨⟨ks, h1, h2⟩, _, _⟩ := S.w.c a _ hm
  refine ⟨a, .dK ks, h1, trivial, fun od => ?_⟩
  obtain ⟨e1, w1⟩ := Ext.cell S.w hm (o := .frz od (.dK ks)) (ob' := .dct (some (od, ks)) kvs) ⟨upd_same, h2⟩
  refine ⟨P.go ⟨P.G.G, P.G.M.set a (.dct (some (od, ks)) kvs)⟩, _, S.ext e1 w1, h (od, ks), ⟨fun G H' σ' E s q => ?_, fun v G H' d e w r q => ?_, fun _ _ _ _ _ _ _ _ _ _ _ _ f => f.elim, fun G H' σ' E s q => ?_, fun G H' σ' E s q => ?_, fun _ _ _ _ _ _ _ _ _ f => f.elim⟩⟩
  · obtain ⟨q1, M', e, w, q2⟩ := back_at s.w q
    exact ⟨q1, L.nx ⟨G.G, M'⟩ _ σ' E (s.ext e w) q2⟩
  · obtain ⟨q1, M', e3, w3, q2⟩ := back_at w q
    exact ⟨q1, L.rt v ⟨G.G, M'⟩ _ d (e.trans e3) w3 r q2⟩
  · obtain ⟨q1, M', e, w, q2⟩ := back_at s.w q
    exact ⟨q1, L.bk ⟨G.G, M'⟩ _ σ' E (s.ext e w) q2⟩
  · obtain ⟨q1, M', e, w, q2⟩ := back_at s.w q
    exact ⟨q1, L.ct ⟨G.G, M'⟩ _ σ' E (s.ext e w) q2⟩
/-! ### sorted of a dict's keys -/
theorem asDctM_at {K : PySem.W.Frag} {bx : Option Bx} {G : Gm} {H : Hp} (wo : Wo K bx G H) {v : V} {d : PyData} {P : List (Key × PyData) → Prop} (r : Rp K G v d) (h : asDctM G.M d P) :
    ∃ a ks kvs, v = .ref a ∧ Rd H a (.dK ks) ∧ RpK K G ks kvs ∧ P kvs := by
  unfold asDctM at h
  split at h
  · rename_i l kvs hc
    obtain ⟨a, ex, hm⟩ := celM_some hc
    subst ex
    have ev := r.cell_inv
    subst ev
    obtain ⟨c1, _, _⟩ := wo.c a _ hm
    cases l with
    | none => obtain ⟨ks, h1, h2⟩ := c1; exact ⟨a, ks, kvs, rfl, .inl h1, h2, h⟩
    | some t => obtain ⟨h1, h2⟩ := c1; exact ⟨a, t.2, kvs, rfl, .inr ⟨t.1, h1⟩, h2, h⟩
  · exact h.elim
  · obtain ⟨kvs, ex, h⟩ := h
    subst ex
    obtain ⟨a, o, ks, ev, h1, h2⟩ := r.dct_inv
    exact ⟨a, ks, kvs, ev, .inr ⟨o, wo.s _ _ h1⟩, h2, h⟩
def gSorted (M : Mu) : FCF := fun ds R => fSorted ds R ∨ ∃ d, ds = [d] ∧ asDctM M d fun kvs => ∃ ks : List Str, kvs.map (·.1) = ks.map Sum.inr ∧ ks.length < 64 ∧ ∀ ys : List Str, ys.Perm ks → sortedS ys = true → R (ys.map .str)
def rSortedK (K : PySem.W.Frag) : List V → Hp → VK → Prop := fun xs H Q => rSortedA K xs H Q ∨ ∃ (a : Addr) (kvs : List (Key × V)) (ks : List Str), xs = [.ref a] ∧ Rd H a (.dK kvs) ∧ kvs.map (·.1) = ks.map Sum.inr ∧ ks.length < 64 ∧ ∀ ys p, ys.Perm ks → sortedS ys = true → H p = none → Q (.ref p) (upd H p (.lst (ys.map V.str)))
theorem sortedG_ok {K : PySem.W.Frag} : RCFOkM K (rSortedK K) gSorted := fun bx G H vs ds R Q wo rr h k => by
  rcases h with h | ⟨d, e, h⟩
  · exact .inl (sorted_ok G.G H vs ds R Q wo.s rr h k)
  · subst e
    cases rr with
    | cons r1 r0 =>
      cases r0
      obtain ⟨a, ks, kvs, ev, hr, rk, ks2, e1, e2, e3⟩ := asDctM_at wo r1 h
      subst ev
      exact .inr ⟨a, ks, ks2, rfl, hr, by rw [rk.keys]; exact e1, e2, fun ys p hp hs hn => k p _ _ hn (rps_strs ys) (e3 ys hp hs)⟩
/-- d.get(k, x) -/
def dGet2 (dob de dx : DE) : DE := fun E R Xn => dob E (fun d M => asDctM M d fun _ => de E (fun y => dx E (fun z M => asDctM M d fun kvs => ∃ k, y = kD k ∧ R ((lookK kvs k).getD z) M) Xn) Xn M) Xn
section
variable {X : Cx} {W : WX} {pos p apos cpos : Pos} {e f o : Expr} {da : DA} {dob de dx : DE}
theorem b_sortedG (fr : Fr X.mg) (hc : X.calm = true) (ha : QA X W [e] da) (hg : Gl X "sorted" := by rfl) (he : starEach [e] X.env = (false, eval e X.env) :: starEach [] X.env := by rfl) : QF X W (.Call (.Name "sorted" p) [e] [] pos) (dCBFG gSorted da) := 
  pe_imp (pe_callB (CallR.or cr_sortedA (call_sortedD hc)) hg fr.sorted bv_sorted ha (by decide) (by decide) he rfl) fun _ _ _ => lift_cbfG sortedG_ok
theorem c_get2 (hu : X.A.units + 1 < cLine) (ho : QE X W o dob) (he : QE X W e de) (hf : QE X W f dx) (m : M2 X o "get" apos e f cpos := by exact ⟨rfl, rfl, rfl, rfl⟩) : QE X W (.Call (.Attribute o "get" apos) [e, f] [] cpos) (dGet2 dob de dx) :=
  pe_imp (pe_dget2 hu ho he hf m) fun σ H Q ⟨P, R, Xn, S, h, k, kx⟩ =>
  ⟨P, _, Xn, S, h, fun v G1 H1 d e1 S1 r1 h1 => by
    obtain ⟨a, ks, kvs, ev, hr, rk, h2⟩ := asDctM_at S1.w r1 h1
    refine ⟨a, ev, .inl ⟨ks, hr⟩, P.go G1, _, Xn, S1, h2, fun w G2 H2 y e2 S2 r2 h3 => ⟨P.go G2, _, Xn, S2, h3, fun u G3 H3 z e3 S3 r3 h4 => ?_, kx⟩, kx⟩
    obtain ⟨a', ks', kvs', ev', hr', rk', kk, ey, hR⟩ := asDctM_at S3.w ((r1.up e2.g).up e3.g) h4
    have ea : a' = a := by rw [ev] at ev'; injection ev' with h; exact h.symm
    subst ea
    subst ey
    have ew := rp_key r2
    subst ew
    refine ⟨_, .inl ⟨ks', kk, hr', rfl, rfl⟩, ?_⟩
    cases hl : lookK kvs' kk with
    | none =>
      have : valV ks' kk = none := by
        have := lookK_val rk' kk
        rw [hl] at this
        cases hv : valV ks' kk with
        | none => rfl
        | some _ => rw [hv] at this; cases this
      rw [this]
      rw [hl] at hR
      exact k u G3 H3 z (e1.trans (e2.trans e3)) S3 r3 hR
    | some d' =>
      obtain ⟨u', hv, ru⟩ := rk'.val hl
      rw [hv]
      rw [hl] at hR
      exact k u' G3 H3 d' (e1.trans (e2.trans e3)) S3 ru hR, kx⟩
end
end Wx

namespace Wx
open PySem PySem.Spec PyProof.Rows L2
/-- a statement that is never come to -/
def dNever : DS := fun _ _ _ => False
theorem s_never {X : Cx} {W : WX} {st : Stmt} : QS X W st dNever := ⟨fun _ _ _ _ _ _ ⟨_, _, _, h, _⟩ => h.elim⟩
@[simp] theorem dNever_s {R : DEnds} {E : List En} {M : Mu} : dNever R E M = False := rfl
/-- how many different numbers stand in a list where none stands twice -/
def asDiffL (d : PyData) (R : PyData → Prop) : Prop := ∃ ns : List Int, d = .list (ns.map .int) ∧ ns.Nodup ∧ ns.length ≤ 4000 ∧ R (.int (ns.length : Nat))
def dDiffL (de : DE) : DE := fun E R Xn => de E (fun d M => asDiffL d fun z => R z M) Xn
@[simp] theorem dDiffL_s {de : DE} {E : List En} {R : PyData → Mu → Prop} {Xn : Er → Mu → Prop} : dDiffL de E R Xn = de E (fun d M => asDiffL d fun z => R z M) Xn := rfl
theorem q_diffL {X : Cx} {W : WX} {pos p p2 q : Pos} {a : Expr} {da : DE} (fr : Fr X.mg) (ha : QE X W a da) (hg : Gl X "len" := by rfl) (hg2 : Gl X "set" := by rfl) (hc : X.calm = true := by rfl) (na : starEach [a] X.env = (false, eval a X.env) :: starEach [] X.env := by rfl) :
    QE X W (.Call (.Name "len" p) [.Call (.Name "set" p2) [a] [] q] [] pos) (dDiffL da) := pe_imp (RZ.pe_lenSetI hg fr.len hg2 fr.set ha hc na) fun σ H Q ⟨P, R, Xn, S, h, kq, kx⟩ =>
  ⟨P, _, Xn, S, h, fun v G1 H1 d e1 S1 r1 ⟨ns, ed, hn, hl, hR⟩ => (by
    subst ed
    cases r1 with
    | @lst a xs ds h a1 =>
      have e := a1.ints
      subst e
      exact ⟨_, ns, rfl, SqL.of (S1.w.s _ _ h), hn, hl, kq _ G1 H1 _ e1 S1 (.int _) hR⟩), kx⟩
/-! ### dips, wax -/
def dipC (k : Nat) (c : Cell) : Cell := if c.wx then c else ⟨bump c.st k, c.wx, c.ws⟩
def fullC (k : Nat) (c : Cell) : Bool := !c.wx && decide (9 ≤ sd c.st k)
def metB (b : List Cell) : Bool := b.all fun c => decide (c.st = c.ws)
def waxC (zs : List Int) (i : Nat) (c : Cell) : Cell := ⟨c.st, c.wx || decide ((i : Int) ∈ zs), c.ws⟩
def waxB (b : List Cell) (zs : List Int) : List Cell := (List.range b.length).map fun i => waxC zs i (cellAt b i)
/-! ### plans -/
inductive Mv where
  | wax (cs : List Nat)
  | dip (d : Nat)
  | boil
def dMv : Mv → PyData
  | .wax cs => .tuple [.str "wax", .tuple (cs.map natI)]
  | .dip d => .tuple [.str "dip", .int d]
  | .boil => .tuple [.str "boil"]
def toWaxF (b : List Cell) (d : Nat) (W : List Bool) : List Nat := (List.range b.length).filter fun i => !(W[i]?).getD false && !lacksC (cellAt b i) d
def waxed (b : List Cell) (d : Nat) (W : List Bool) : List Bool := (List.range b.length).map fun i => (W[i]?).getD false || !lacksC (cellAt b i) d
def smF (b : List Cell) : List Nat → List Bool → List Mv
  | [], _ => []
  | d :: r, W => (if toWaxF b d W = [] then [] else [.wax (toWaxF b d W)]) ++ .dip d :: smF b r (waxed b d W)
def restF (b : List Cell) (rows : List (List Nat)) : List Mv := rows.flatMap fun r => .boil :: smF b r (b.map fun _ => false)
def planF (b : List Cell) : List Mv := smF b (stretchB b).head! (b.map (·.wx)) ++ restF b (stretchB b).tail
/-- how a row of moves is walked -/
structure Wk where
  rows : List Cell
  dips : List Nat
  boils : Nat
def okM (fresh : List Bool) (s : Wk) : Mv → Prop
  | .wax cs => cs ≠ [] ∧ cs.Pairwise (· < ·) ∧ ∀ i ∈ cs, i < s.rows.length ∧ (cellAt s.rows i).wx = false
  | .dip d => (fresh[d]?).getD false = true ∧ d ∉ s.dips ∧ s.rows.any (fullC d) = false
  | .boil => True
def stepM (s : Wk) : Mv → Wk
  | .wax cs => ⟨waxB s.rows (cs.map Int.ofNat), s.dips, s.boils⟩
  | .dip d => ⟨s.rows.map (dipC d), s.dips ++ [d], s.boils⟩
  | .boil => ⟨boilB s.rows, s.dips, s.boils + 1⟩
theorem step_wax {r : List Cell} {D : List Nat} {k : Nat} {cs : List Nat} : stepM ⟨r, D, k⟩ (.wax cs) = ⟨waxB r (cs.map Int.ofNat), D, k⟩ := rfl
theorem step_dip {r : List Cell} {D : List Nat} {k d : Nat} : stepM ⟨r, D, k⟩ (.dip d) = ⟨r.map (dipC d), D ++ [d], k⟩ := rfl
theorem step_boil {r : List Cell} {D : List Nat} {k : Nat} : stepM ⟨r, D, k⟩ .boil = ⟨boilB r, D, k + 1⟩ := rfl
def okRun (fresh : List Bool) : Wk → List Mv → Prop
  | _, [] => True
  | s, m :: r => okM fresh s m ∧ okRun fresh (stepM s m) r
def runM (s : Wk) (ms : List Mv) : Wk := ms.foldl stepM s
theorem okRun_app {fresh : List Bool} : ∀ {p q : List Mv} {s : Wk}, okRun fresh s (p ++ q) ↔ okRun fresh s p ∧ okRun fresh (runM s p) q
  | [], q, s => by simp [okRun, runM]
  | m :: p, q, s => by
    show okM fresh s m ∧ okRun fresh (stepM s m) (p ++ q) ↔ (okM fresh s m ∧ okRun fresh (stepM s m) p) ∧ okRun fresh (runM (stepM s m) p) q
    rw [okRun_app, and_assoc]
theorem runM_app {p q : List Mv} {s : Wk} : runM s (p ++ q) = runM (runM s p) q := by
  unfold runM
  rw [List.foldl_append]
/-- the bolt b, the dyes D dipped where they lacked, the cells W waxed -/
def markC (D : List Nat) (w : Bool) (c : Cell) : Cell := ⟨(List.range c.st.length).map fun k => sd c.st k + if k ∈ D ∧ lacksC c k = true then 1 else 0, w, c.ws⟩
def markB (b : List Cell) (D : List Nat) (W : List Bool) : List Cell := (List.range b.length).map fun i => markC D ((W[i]?).getD false) (cellAt b i)
theorem mark_wx {D : List Nat} {w : Bool} {c : Cell} : (markC D w c).wx = w := rfl
theorem mark_sd {D : List Nat} {w : Bool} {c : Cell} {k : Nat} (h : k < c.st.length) : sd (markC D w c).st k = sd c.st k + if k ∈ D ∧ lacksC c k = true then 1 else 0 := by
  have : ((List.range c.st.length).map fun k => sd c.st k + if k ∈ D ∧ lacksC c k = true then 1 else 0)[k]? = some (sd c.st k + if k ∈ D ∧ lacksC c k = true then 1 else 0) := by simp [h]
  show (((List.range c.st.length).map fun k => sd c.st k + if k ∈ D ∧ lacksC c k = true then 1 else 0)[k]?).getD 0 = _
  rw [this]
  rfl
theorem mark_len {b : List Cell} {D : List Nat} {W : List Bool} : (markB b D W).length = b.length := by simp [markB]
theorem mark_at {b : List Cell} {D : List Nat} {W : List Bool} {i : Nat} (h : i < b.length) : cellAt (markB b D W) i = markC D ((W[i]?).getD false) (cellAt b i) := by
  simp [cellAt, markB, h]
theorem mark_nil {b : List Cell} : markB b [] (b.map (·.wx)) = b := by
  apply List.ext_getElem
  · simp [markB]
  · intro i h1 h2
    have e : ∀ st : List Int, (List.range st.length).map (sd st) = st := fun st => by
      apply List.ext_getElem
      · simp
      · intro j g1 g2
        simp [sd, g2]
    simp [markB, markC, cellAt, h2, e]
theorem mark_wax {b : List Cell} {D : List Nat} {W : List Bool} {d : Nat} : waxB (markB b D W) ((toWaxF b d W).map Int.ofNat) = markB b D (waxed b d W) := by
  unfold waxB
  rw [mark_len]
  conv => rhs; unfold markB
  apply List.map_congr_left
  intro i hi
  have hi : i < b.length := by simpa using hi
  rw [mark_at hi]
  have e : ((i : Int) ∈ (toWaxF b d W).map Int.ofNat) ↔ ((W[i]?).getD false = false ∧ lacksC (cellAt b i) d = false) := by
    rw [List.mem_map]
    constructor
    · rintro ⟨j, h, e⟩
      have e : (j : Int) = (i : Int) := e
      have : j = i := by omega
      subst this
      have := (List.mem_filter.mp h).2
      simpa using this
    · intro h
      exact ⟨i, List.mem_filter.mpr ⟨by simpa using hi, by simp [h.1, h.2]⟩, rfl⟩
  have e2 : ((waxed b d W)[i]?).getD false = ((W[i]?).getD false || !lacksC (cellAt b i) d) := by
    simp [waxed, hi]
  rw [e2]
  unfold waxC markC
  simp only [e]
  congr 1
  cases h1 : (W[i]?).getD false <;> cases h2 : lacksC (cellAt b i) d <;> simp
theorem wax_none {b : List Cell} {D : List Nat} {W : List Bool} {d : Nat} (h : toWaxF b d W = []) : markB b D (waxed b d W) = markB b D W := by
  rw [← mark_wax, h]
  unfold waxB
  rw [mark_len]
  conv => rhs; unfold markB
  apply List.map_congr_left
  intro i hi
  have hi : i < b.length := by simpa using hi
  rw [mark_at hi]
  simp [waxC, markC]
/-- as a bolt with nothing that hinders: each wish the stain or one deeper -/
structure Fit (n : Nat) (b : List Cell) : Prop where
  sz : Sized n b
  ti : ∀ c ∈ b, ∀ k, k < n → sd c.ws k = sd c.st k ∨ sd c.ws k = sd c.st k + 1
  w9 : ∀ c ∈ b, ∀ k, k < n → sd c.ws k ≤ 9
theorem mark_dip {n : Nat} {b : List Cell} {D : List Nat} {W : List Bool} {d : Nat} (hs : Sized n b) (hd : d < n) (hD : d ∉ D) (hw : ∀ i, i < b.length → ((W[i]?).getD false = !lacksC (cellAt b i) d)) : (markB b D W).map (dipC d) = markB b (D ++ [d]) W := by
  unfold markB
  rw [List.map_map]
  apply List.map_congr_left
  intro i hi
  have hi : i < b.length := by simpa using hi
  have hn := (hs.2.2 _ (cellAt_mem hi)).1
  show dipC d (markC D ((W[i]?).getD false) (cellAt b i)) = markC (D ++ [d]) ((W[i]?).getD false) (cellAt b i)
  rw [hw i hi]
  unfold dipC markC
  cases hl : lacksC (cellAt b i) d with
  | false =>
    simp only [Bool.not_false, if_true]
    congr 1
    apply List.map_congr_left
    intro k hk
    have : (k ∈ D ++ [d] ∧ lacksC (cellAt b i) k = true) ↔ (k ∈ D ∧ lacksC (cellAt b i) k = true) := by
      constructor
      · rintro ⟨h1, h2⟩
        refine ⟨?_, h2⟩
        rcases List.mem_append.mp h1 with q | q
        · exact q
        · simp at q
          rw [q, hl] at h2
          cases h2
      · rintro ⟨h1, h2⟩
        exact ⟨by simp [h1], h2⟩
    simp only [this]
  | true =>
    simp only [Bool.not_true, Bool.false_eq_true, if_false]
    congr 1
    unfold bump
    apply List.ext_getElem
    · simp
    · intro k g1 g2
      have hk : k < (cellAt b i).st.length := by simpa using g2
      rw [List.getElem_set]
      by_cases e : d = k
      · subst e
        have : sd ((List.range (cellAt b i).st.length).map fun k => sd (cellAt b i).st k + if k ∈ D ∧ lacksC (cellAt b i) k = true then 1 else 0) d = sd (cellAt b i).st d := by
          have := mark_sd (D := D) (w := false) hk
          have e0 : (if d ∈ D ∧ lacksC (cellAt b i) d = true then (1 : Int) else 0) = 0 := by simp [hD]
          rw [e0, Int.add_zero] at this
          exact this
        simp [this, hl]
      · have e' : ¬ k = d := fun q => e q.symm
        simp [e, e']
theorem row_run {n : Nat} {b : List Cell} {fresh : List Bool} (hf : Fit n b) (fr : ∀ d ∈ neededL b, (fresh[d]?).getD false = true) : ∀ (row : List Nat) (D : List Nat) (W : List Bool) (k : Nat), (row.Pairwise fun a c => beneathB b c a = true) → (∀ d ∈ row, d ∈ neededL b ∧ d ≠ 12) → (D ++ row).Nodup →
    (∀ d ∈ row, ∀ i, i < b.length → lacksC (cellAt b i) d = true → (W[i]?).getD false = false) →
    okRun fresh ⟨markB b D W, D, k⟩ (smF b row W) ∧ ∃ W', runM ⟨markB b D W, D, k⟩ (smF b row W) = ⟨markB b (D ++ row) W', D ++ row, k⟩
  | [], D, W, k, _, _, _, _ => ⟨trivial, W, by simp [smF, runM]⟩
  | d :: row, D, W, k, hp, hm, hn, hw => by
    obtain ⟨hp1, hp2⟩ := List.pairwise_cons.mp hp
    have hdn := (hm d (by simp)).1
    have dn := needed_lt hf.sz hdn
    have hD : d ∉ D := fun q => (List.nodup_append.mp hn).2.2 d q d (by simp) rfl
    -- after the wax
    have wat : ∀ i, i < b.length → (((waxed b d W)[i]?).getD false = !lacksC (cellAt b i) d) := fun i hi => by
      have e2 : ((waxed b d W)[i]?).getD false = ((W[i]?).getD false || !lacksC (cellAt b i) d) := by simp [waxed, hi]
      rw [e2]
      cases hl : lacksC (cellAt b i) d with
      | false => simp
      | true => rw [hw d (by simp) i hi hl]; rfl
    have full : (markB b D (waxed b d W)).any (fullC d) = false := by
      rw [List.any_eq_false]
      intro c hc
      obtain ⟨i, hi, e⟩ := List.mem_map.mp hc
      have hi : i < b.length := by simpa using hi
      rw [← e, wat i hi]
      unfold fullC
      rw [mark_wx]
      cases hl : lacksC (cellAt b i) d with
      | false => simp
      | true =>
        have hk : d < (cellAt b i).st.length := by rw [(hf.sz.2.2 _ (cellAt_mem hi)).1]; exact dn
        have h1 := hf.w9 _ (cellAt_mem hi) d dn
        simp [lacksC] at hl
        simp [mark_sd hk, hD]
        omega
    have ih := row_run hf fr row (D ++ [d]) (waxed b d W) k hp2 (fun x hx => hm x (by simp [hx])) (by simpa using hn) fun x hx i hi hl => by
      rw [wat i hi]
      have hb := hp1 x hx
      have h12 := (hm d (by simp)).2
      have h12x := (hm x (by simp [hx])).2
      unfold beneathB at hb
      by_cases q : x = d ∨ x = 12
      · rw [if_pos q] at hb; cases hb
      · rw [if_neg q, if_neg h12] at hb
        unfold withinB at hb
        rw [Bool.and_eq_true] at hb
        rw [subB_iff.mp hb.1 _ (cellAt_mem hi) hl]
        rfl
    have st1 : stepM ⟨markB b D (waxed b d W), D, k⟩ (.dip d) = ⟨markB b (D ++ [d]) (waxed b d W), D ++ [d], k⟩ := by
      rw [step_dip, mark_dip hf.sz dn hD wat]
    have dipok : okM fresh ⟨markB b D (waxed b d W), D, k⟩ (.dip d) := ⟨fr d hdn, hD, full⟩
    have tail : okRun fresh ⟨markB b D (waxed b d W), D, k⟩ (.dip d :: smF b row (waxed b d W)) ∧ ∃ W', runM ⟨markB b D (waxed b d W), D, k⟩ (.dip d :: smF b row (waxed b d W)) = ⟨markB b (D ++ d :: row) W', D ++ d :: row, k⟩ := by
      refine ⟨⟨dipok, by rw [st1]; exact ih.1⟩, ?_⟩
      obtain ⟨W', h⟩ := ih.2
      refine ⟨W', ?_⟩
      unfold runM at h ⊢
      rw [List.foldl_cons, st1, h]
      simp
    unfold smF
    by_cases h0 : toWaxF b d W = []
    · rw [if_pos h0, List.nil_append, ← wax_none (D := D) h0]
      exact tail
    · rw [if_neg h0]
      have st0 : stepM ⟨markB b D W, D, k⟩ (.wax (toWaxF b d W)) = ⟨markB b D (waxed b d W), D, k⟩ := by
        rw [step_wax, mark_wax]
      refine ⟨⟨⟨h0, List.Pairwise.filter _ List.pairwise_lt_range, fun i hi => ?_⟩, by rw [st0]; exact tail.1⟩, ?_⟩
      · obtain ⟨h1, h2⟩ := List.mem_filter.mp hi
        have hi : i < b.length := by simpa using h1
        refine ⟨by rw [mark_len]; exact hi, ?_⟩
        rw [mark_at hi]
        simp at h2
        exact h2.1
      · obtain ⟨W', h⟩ := tail.2
        refine ⟨W', ?_⟩
        rw [List.cons_append, List.nil_append]
        unfold runM at h ⊢
        rw [List.foldl_cons, st0, h]
theorem boil_mark {b : List Cell} {D : List Nat} {W : List Bool} : boilB (markB b D W) = markB b D (b.map fun _ => false) := by
  unfold boilB markB
  rw [List.map_map]
  apply List.map_congr_left
  intro i hi
  have hi : i < b.length := by simpa using hi
  simp [markC, hi]
theorem rest_run {n : Nat} {b : List Cell} {fresh : List Bool} (hf : Fit n b) (fr : ∀ d ∈ neededL b, (fresh[d]?).getD false = true) : ∀ (rows : List (List Nat)) (D : List Nat) (W : List Bool) (k : Nat), (∀ r ∈ rows, r.Pairwise fun a c => beneathB b c a = true) → (∀ d ∈ rows.flatten, d ∈ neededL b ∧ d ≠ 12) → (D ++ rows.flatten).Nodup →
    okRun fresh ⟨markB b D W, D, k⟩ (restF b rows) ∧ ∃ W', runM ⟨markB b D W, D, k⟩ (restF b rows) = ⟨markB b (D ++ rows.flatten) W', D ++ rows.flatten, k + rows.length⟩
  | [], D, W, k, _, _, _ => ⟨trivial, W, by simp [restF, runM]⟩
  | r :: rows, D, W, k, hp, hm, hn => by
    rw [List.flatten_cons] at hm hn
    have st : stepM ⟨markB b D W, D, k⟩ .boil = ⟨markB b D (b.map fun _ => false), D, k + 1⟩ := by
      rw [step_boil, boil_mark]
    obtain ⟨a1, W1, a2⟩ := row_run hf fr r D (b.map fun _ => false) (k + 1) (hp r (by simp)) (fun d hd => hm d (by simp [hd])) (by rw [← List.append_assoc] at hn; exact (List.nodup_append.mp hn).1) fun d _ i hi _ => by simp [hi]
    obtain ⟨b1, W2, b2⟩ := rest_run hf fr rows (D ++ r) W1 (k + 1) (fun r hr => hp r (by simp [hr])) (fun d hd => hm d (by rw [List.mem_append]; exact .inr hd)) (by rw [List.append_assoc]; exact hn)
    have e : restF b (r :: rows) = .boil :: (smF b r (b.map fun _ => false) ++ restF b rows) := rfl
    rw [e]
    refine ⟨⟨trivial, ?_⟩, W2, ?_⟩
    · rw [st, okRun_app, a2]
      exact ⟨a1, b1⟩
    · show runM (stepM _ _) _ = _
      rw [st, runM_app, a2, b2, List.flatten_cons, List.append_assoc]
      congr 1
      rw [List.length_cons]
      omega
theorem plan_run {n : Nat} {b : List Cell} {fresh : List Bool} (hf : Fit n b) (hn : n ≤ 12) (fr : ∀ d ∈ neededL b, (fresh[d]?).getD false = true) :
    okRun fresh ⟨b, [], 0⟩ (planF b) ∧ ∃ W', runM ⟨b, [], 0⟩ (planF b) = ⟨markB b (stretchB b).flatten W', (stretchB b).flatten, (stretchB b).length - 1⟩ := by
  obtain ⟨w1, w2⟩ := stretch_pw hf.sz hn
  have pm := stretch_perm hf.sz hn
  have m12 : ∀ d ∈ (stretchB b).flatten, d ∈ neededL b ∧ d ≠ 12 := fun d hd => by
    have := pm.subset hd
    have := needed_lt hf.sz this
    exact ⟨pm.subset hd, by omega⟩
  have nd : (stretchB b).flatten.Nodup := pm.nodup_iff.mpr (List.Pairwise.filter _ List.nodup_range)
  unfold planF
  obtain ⟨r0, rs, e⟩ : ∃ r0 rs, stretchB b = r0 :: rs := ⟨_, _, rfl⟩
  rw [e] at w1 w2 m12 nd ⊢
  rw [List.flatten_cons] at m12 nd
  have w1 : (12 :: r0).Pairwise fun a c => beneathB b c a = true := w1
  obtain ⟨a1, W1, a2⟩ := row_run hf fr r0 [] (b.map (·.wx)) 0 (w2 r0 (by simp)) (fun d hd => m12 d (by simp [hd])) (by simpa using (List.nodup_append.mp nd).1) fun d hd i hi hl => by
    have hb := (List.pairwise_cons.mp w1).1 d hd
    unfold beneathB at hb
    by_cases q : d = 12 ∨ d = 12
    · rw [if_pos q] at hb; cases hb
    · rw [if_neg q, if_pos rfl] at hb
      unfold freeB at hb
      rw [Bool.not_eq_true', List.any_eq_false] at hb
      have := hb _ (cellAt_mem hi)
      simp only [hl, Bool.and_true, Bool.not_eq_true] at this
      have e : b[i] = cellAt b i := by simp [cellAt, hi]
      simp [hi, e, this]
  rw [mark_nil, List.nil_append] at a2
  rw [mark_nil] at a1
  obtain ⟨b1, W2, b2⟩ := rest_run hf fr rs r0 W1 0 (fun r hr => w2 r (by simp [hr])) (fun d hd => m12 d (by rw [List.mem_append]; exact .inr hd)) nd
  refine ⟨?_, W2, ?_⟩
  · show okRun fresh _ (smF b r0 (b.map (·.wx)) ++ restF b rs)
    rw [okRun_app, a2]
    exact ⟨a1, b1⟩
  · show runM _ (smF b r0 (b.map (·.wx)) ++ restF b rs) = _
    rw [runM_app, a2, b2, List.flatten_cons]
    congr 1
    rw [List.length_cons]
    omega
theorem mark_met {n : Nat} {b : List Cell} {D : List Nat} {W : List Bool} (hf : Fit n b) (hD : ∀ d ∈ neededL b, d ∈ D) : metB (markB b D W) = true := by
  unfold metB
  rw [List.all_eq_true]
  intro c hc
  obtain ⟨i, hi, e⟩ := List.mem_map.mp hc
  have hi : i < b.length := by simpa using hi
  have hm := cellAt_mem hi
  obtain ⟨h1, h2⟩ := hf.sz.2.2 _ hm
  rw [← e]
  simp only [markC]
  apply decide_eq_true
  apply List.ext_getElem
  · simp [h1, h2]
  · intro k g1 g2
    have hk : k < n := by omega
    have hws : (cellAt b i).ws[k] = sd (cellAt b i).ws k := by simp [sd, g2]
    simp only [List.getElem_map, List.getElem_range]
    rw [hws]
    cases hl : lacksC (cellAt b i) k with
    | false =>
      have := hf.ti _ hm k hk
      simp [lacksC] at hl
      simp
      omega
    | true =>
      have hn : k ∈ neededL b := by
        unfold neededL
        rw [List.mem_filter]
        refine ⟨?_, ?_⟩
        · rw [pots_of_mem hf.sz hm]; simpa using hk
        · unfold isNeeded
          rw [List.any_eq_true]
          exact ⟨_, hm, hl⟩
      have := hf.ti _ hm k hk
      have h3 := hD k hn
      simp [lacksC] at hl
      simp [h3]
      omega
theorem enc_bools : Enc fun xs : List Bool => PyData.list (xs.map .bool) := enc_list enc_bool
theorem sh_bools {p : List Bool} : sh (.list (p.map .bool)) = True := eq_true ((lay_list (lay_map fun _ _ => lay_bool (n := 0))).sh (by decide))
@[simp] theorem fEq_Bs {p q : List Bool} {R : PyData → Prop} : fEq (.list (p.map .bool)) (.list (q.map .bool)) R = R (.bool (decide (p = q))) := fEq_enc enc_bools sh_bools sh_bools
@[simp] theorem fNe_Bs {p q : List Bool} {R : PyData → Prop} : fNe (.list (p.map .bool)) (.list (q.map .bool)) R = R (.bool (!decide (p = q))) := fNe_enc enc_bools sh_bools sh_bools
theorem smF_last {b : List Cell} : ∀ {row : List Nat} {W : List Bool}, row ≠ [] → ∃ p d, smF b row W = p ++ [.dip d]
  | [], _, h => absurd rfl h
  | [d], W, _ => ⟨(if toWaxF b d W = [] then [] else [.wax (toWaxF b d W)]), d, rfl⟩
  | d :: e :: r, W, _ => by
    obtain ⟨p, x, h⟩ := smF_last (b := b) (row := e :: r) (W := waxed b d W) (by simp)
    refine ⟨(if toWaxF b d W = [] then [] else [.wax (toWaxF b d W)]) ++ .dip d :: p, x, ?_⟩
    show (if toWaxF b d W = [] then [] else [.wax (toWaxF b d W)]) ++ .dip d :: smF b (e :: r) (waxed b d W) = _
    rw [h]
    simp
theorem restF_last {b : List Cell} : ∀ {rows : List (List Nat)}, rows ≠ [] → (∀ r ∈ rows, r ≠ []) → ∃ p d, restF b rows = p ++ [.dip d]
  | [], h, _ => absurd rfl h
  | [r], _, hr => by
    obtain ⟨p, d, h⟩ := smF_last (b := b) (W := b.map fun _ => false) (hr r (by simp))
    exact ⟨.boil :: p, d, by simp [restF, h]⟩
  | r :: s :: rows, _, hr => by
    obtain ⟨p, d, h⟩ := restF_last (b := b) (rows := s :: rows) (by simp) fun r h => hr r (by simp [h])
    refine ⟨.boil :: (smF b r (b.map fun _ => false) ++ p), d, ?_⟩
    show .boil :: (smF b r (b.map fun _ => false) ++ restF b (s :: rows)) = _
    rw [h]
    simp
theorem plan_last {b : List Cell} (h : planF b ≠ []) : ∃ p d, planF b = p ++ [.dip d] := by
  by_cases h1 : (stretchB b).tail = []
  · by_cases h2 : (stretchB b).head! = []
    · refine absurd ?_ h
      unfold planF
      rw [h1, h2]
      rfl
    · obtain ⟨p, d, e⟩ := smF_last (b := b) (W := b.map (·.wx)) h2
      exact ⟨p, d, by unfold planF; rw [h1, e]; simp [restF]⟩
  · obtain ⟨p, d, e⟩ := restF_last (b := b) h1 stretch_pos
    exact ⟨smF b (stretchB b).head! (b.map (·.wx)) ++ p, d, by unfold planF; rw [e]; simp⟩
theorem plan_nil {n : Nat} {b : List Cell} (hf : Fit n b) (hn : n ≤ 12) : planF b = [] ↔ metB b = true := by
  have pm := stretch_perm hf.sz hn
  constructor
  · intro h
    have h0 : neededL b = [] := by
      have : (stretchB b).flatten = [] := by
        unfold planF at h
        obtain ⟨h1, h2⟩ := List.append_eq_nil_iff.mp h
        have r0 : (stretchB b).head! = [] := by
          by_cases q : (stretchB b).head! = []
          · exact q
          · obtain ⟨p, d, e⟩ := smF_last (b := b) (W := b.map (·.wx)) q
            rw [e] at h1
            simp at h1
        have rt : (stretchB b).tail = [] := by
          cases q : (stretchB b).tail with
          | nil => rfl
          | cons r rs => rw [q] at h2; simp [restF] at h2
        have e : stretchB b = (stretchB b).head! :: (stretchB b).tail := rfl
        rw [e, r0, rt]
        rfl
      rw [this] at pm
      exact List.Perm.eq_nil pm.symm
    have := mark_met (D := []) (W := b.map (·.wx)) hf (by rw [h0]; simp)
    rwa [mark_nil] at this
  · intro h
    have h0 : neededL b = [] := by
      unfold neededL
      rw [List.filter_eq_nil_iff]
      intro d _
      unfold isNeeded
      rw [Bool.not_eq_true, List.any_eq_false]
      intro c hc
      have := List.all_eq_true.mp h c hc
      simp at this
      simp [lacksC, this]
    rw [h0] at pm
    have fl := List.Perm.eq_nil pm
    have e : stretchB b = (stretchB b).head! :: (stretchB b).tail := rfl
    rw [e, List.flatten_cons, List.append_eq_nil_iff] at fl
    have rt : (stretchB b).tail = [] := by
      cases q : (stretchB b).tail with
      | nil => rfl
      | cons r rs =>
        have h1 := stretch_pos r (by rw [q]; simp)
        rw [q, List.flatten_cons, List.append_eq_nil_iff] at fl
        exact absurd fl.2.1 h1
    unfold planF
    rw [fl.1, rt]
    rfl
/-! ### other rows of moves -/
theorem mark_lacks {n : Nat} {b : List Cell} {D : List Nat} {W : List Bool} {d i : Nat} (hs : Sized n b) (hi : i < b.length) (hd : d < n) (hD : d ∉ D) : lacksC (cellAt (markB b D W) i) d = lacksC (cellAt b i) d := by
  rw [mark_at hi]
  have hk : d < (cellAt b i).st.length := by rw [(hs.2.2 _ (cellAt_mem hi)).1]; exact hd
  unfold lacksC
  rw [mark_sd hk]
  simp [hD, markC]
theorem mark_lackL {n : Nat} {b : List Cell} {D : List Nat} {W : List Bool} {d : Nat} (hs : Sized n b) (hd : d < n) (hD : d ∉ D) : lackL (markB b D W) d = lackL b d := by
  unfold lackL
  rw [mark_len]
  apply List.filter_congr
  intro i hi
  exact mark_lacks hs (by simpa using hi) hd hD
theorem mark_sized {n : Nat} {b : List Cell} {D : List Nat} {W : List Bool} (hs : Sized n b) : Sized n (markB b D W) := ⟨by rw [mark_len]; exact hs.1, hs.2.1, fun c hc => by
  obtain ⟨i, hi, e⟩ := List.mem_map.mp hc
  have hi : i < b.length := by simpa using hi
  rw [← e]
  have := hs.2.2 _ (cellAt_mem hi)
  exact ⟨by simpa [markC] using this.1, this.2⟩⟩
/-- what another row of moves keeps: the parts between boilings are chains -/
structure RowIn (n : Nat) (b : List Cell) (D : List Nat) (W : List Bool) (left : List Nat) (cur : List Nat) (Rs : List (List Nat)) (boils : Nat) : Prop where
  lf : ∀ d ∈ left, d ∈ neededL b ∧ d ∉ D
  al : ∀ d ∈ neededL b, d ∈ left ∨ d ∈ D
  ch : Chains (beneathB b) (cur :: Rs)
  al2 : ∀ d, d ∈ D ∨ d = 12 → d ∈ (cur :: Rs).flatten
  nb : Rs.length = boils
  un : ∀ x ∈ cur, x ≠ 12 → ∀ i, i < b.length → (W[i]?).getD false = false → lacksC (cellAt b i) x = true
  c12 : 12 ∈ cur → ∀ i, i < b.length → (cellAt b i).wx = true → (W[i]?).getD false = true
  cn : ∀ x ∈ cur, x = 12 ∨ x ∈ D
theorem row_boil {n : Nat} {b : List Cell} {D W left cur Rs boils} (h : RowIn n b D W left cur Rs boils) : RowIn n b D (b.map fun _ => false) left [] (cur :: Rs) (boils + 1) :=
  ⟨h.lf, h.al, fun r hr => by
    rcases List.mem_cons.mp hr with e | hr
    · rw [e]; intro x hx; cases hx
    · exact h.ch r hr, fun d hd => by simpa using h.al2 d hd, by simp [h.nb], fun _ hx => (nomatch hx), fun hx => (nomatch hx), fun _ hx => (nomatch hx)⟩
theorem row_dip {n : Nat} {b : List Cell} {D W left cur Rs boils} {d : Nat} (hs : Sized n b) (hn : n ≤ 12) (h : RowIn n b D W left cur Rs boils) (hd : d ∈ left) (good : ∀ i, i < b.length → lacksC (cellAt b i) d = true → (W[i]?).getD false = false) :
    RowIn n b (D ++ [d]) (waxed b d W) (left.filter fun x => !decide (x = d)) (d :: cur) Rs boils := by
  have hdn := (h.lf d hd).1
  have hlt := needed_lt hs hdn
  have cmp : ∀ x ∈ cur, d = x ∨ beneathB b d x = true ∨ beneathB b x d = true := fun x hx => by
    by_cases e : d = x
    · exact .inl e
    · have d12 : d ≠ 12 := by omega
      by_cases x12 : x = 12
      · subst x12
        right; left
        unfold beneathB
        rw [if_neg (by simp [d12]), if_pos rfl]
        unfold freeB
        rw [Bool.not_eq_true', List.any_eq_false]
        intro c hc
        obtain ⟨i, hi, rfl⟩ := mem_cell hc
        cases hw : (cellAt b i).wx with
        | false => simp
        | true =>
          have := h.c12 hx i hi hw
          cases hl : lacksC (cellAt b i) d with
          | false => simp
          | true => rw [good i hi hl] at this; cases this
      · have sub : subB b d x = true := by
          rw [subB_iff]
          intro c hc hl
          obtain ⟨i, hi, rfl⟩ := mem_cell hc
          exact h.un x hx x12 i hi (good i hi hl)
        have n1 : ¬ (d = x ∨ d = 12) := fun q => q.elim e d12
        have n2 : ¬ (x = d ∨ x = 12) := fun q => q.elim (fun q => e q.symm) x12
        unfold beneathB
        rw [if_neg n1, if_neg n2, if_neg x12, if_neg d12]
        unfold withinB
        rw [sub]
        cases q : subB b x d with
        | false => right; left; simp
        | true =>
          rcases Nat.lt_or_gt_of_ne e with p | p
          · right; right; simp [p]
          · right; left; simp [p]
  have wat : ∀ i, i < b.length → (((waxed b d W)[i]?).getD false = !lacksC (cellAt b i) d) := fun i hi => by
    have e2 : ((waxed b d W)[i]?).getD false = ((W[i]?).getD false || !lacksC (cellAt b i) d) := by simp [waxed, hi]
    rw [e2]
    cases hl : lacksC (cellAt b i) d with
    | false => simp
    | true => rw [good i hi hl]; rfl
  refine ⟨fun x hx => ?_, fun x hx => ?_, fun r hr => ?_, fun x hx => ?_, h.nb, fun x hx x12 i hi hw => ?_, fun hx i hi hw => ?_, fun x hx => ?_⟩
  · obtain ⟨h1, h2⟩ := List.mem_filter.mp hx
    simp at h2
    have := h.lf x h1
    exact ⟨this.1, by simp [this.2, h2]⟩
  · by_cases e : x = d
    · right; simp [e]
    · rcases h.al x hx with q | q
      · left; exact List.mem_filter.mpr ⟨q, by simp [e]⟩
      · right; simp [q]
  · rcases List.mem_cons.mp hr with e | hr
    · rw [e]
      intro x hx y hy
      rcases List.mem_cons.mp hx with ex | hx
      · rcases List.mem_cons.mp hy with ey | hy
        · exact .inl (ex.trans ey.symm)
        · rw [ex]; exact cmp y hy
      · rcases List.mem_cons.mp hy with ey | hy
        · rw [ey]
          rcases cmp x hx with q | q | q
          · exact .inl q.symm
          · exact .inr (.inr q)
          · exact .inr (.inl q)
        · exact h.ch cur (by simp) x hx y hy
    · exact h.ch r (by simp [hr])
  · have : x = d ∨ (x ∈ D ∨ x = 12) := by
      rcases hx with q | q
      · rcases List.mem_append.mp q with q | q
        · exact .inr (.inl q)
        · simp at q; exact .inl q
      · exact .inr (.inr q)
    rcases this with q | q
    · simp [q]
    · have := h.al2 x q
      rw [List.flatten_cons] at this ⊢
      rw [List.cons_append]
      exact List.mem_cons_of_mem _ this
  · rw [wat i hi] at hw
    simp at hw
    rcases List.mem_cons.mp hx with e | hx
    · rw [e]; exact hw
    · exact h.un x hx x12 i hi (good i hi hw)
  · have hx : 12 ∈ cur := by
      rcases List.mem_cons.mp hx with e | hx
      · omega
      · exact hx
    have e2 : ((waxed b d W)[i]?).getD false = ((W[i]?).getD false || !lacksC (cellAt b i) d) := by simp [waxed, hi]
    rw [e2, h.c12 hx i hi hw]
    rfl
  · rcases List.mem_cons.mp hx with e | hx
    · right; simp [e]
    · rcases h.cn x hx with q | q
      · exact .inl q
      · right; simp [q]
end Wx

namespace Wx
open PySem PySem.Spec PyProof.Rows L2
/-! ### behind any part of a plan -/
theorem waxed_at {b : List Cell} {d : Nat} {W : List Bool} {i : Nat} (hi : i < b.length) : ((waxed b d W)[i]?).getD false = ((W[i]?).getD false || !lacksC (cellAt b i) d) := by simp [waxed, hi]
theorem waxed_idem {b : List Cell} {d : Nat} {W : List Bool} : waxed b d (waxed b d W) = waxed b d W := by
  apply List.ext_getElem?
  intro i
  by_cases hi : i < b.length
  · have h1 : (waxed b d (waxed b d W))[i]? = some (((waxed b d W)[i]?).getD false || !lacksC (cellAt b i) d) := by
      show ((List.range b.length).map _)[i]? = _
      simp [hi]
    have h2 : (waxed b d W)[i]? = some ((W[i]?).getD false || !lacksC (cellAt b i) d) := by
      show ((List.range b.length).map _)[i]? = _
      simp [hi]
    rw [h1, waxed_at hi, h2]
    cases (W[i]?).getD false <;> cases lacksC (cellAt b i) d <;> rfl
  · rw [List.getElem?_eq_none (by simp [waxed]; omega), List.getElem?_eq_none (by simp [waxed]; omega)]
theorem toWax_waxed {b : List Cell} {d : Nat} {W : List Bool} : toWaxF b d (waxed b d W) = [] := by
  unfold toWaxF
  rw [List.filter_eq_nil_iff]
  intro i hi
  have hi : i < b.length := by simpa using hi
  rw [waxed_at hi]
  cases (W[i]?).getD false <;> cases lacksC (cellAt b i) d <;> simp
theorem rowIn_more {n : Nat} {b : List Cell} {D W left cur Rs boils} {d : Nat} (h : RowIn n b D W left cur Rs boils) : RowIn n b D (waxed b d W) left cur Rs boils := by
  refine ⟨h.lf, h.al, h.ch, h.al2, h.nb, fun x hx x12 i hi hw => ?_, fun hx i hi hw => ?_, h.cn⟩
  · rw [waxed_at hi] at hw
    refine h.un x hx x12 i hi ?_
    cases q : (W[i]?).getD false with
    | false => rfl
    | true => rw [q] at hw; cases hw
  · rw [waxed_at hi, h.c12 hx i hi hw]
    rfl
/-- where a part of the plan ends: r0 the rest of the row at hand, rs the rows not begun -/
structure Part (n : Nat) (b : List Cell) (s : Wk) (D : List Nat) (W : List Bool) (left cur : List Nat) (Rs : List (List Nat)) (r0 : List Nat) (rs : List (List Nat)) : Prop where
  st : s = ⟨markB b D W, D, s.boils⟩
  ri : RowIn n b D W left cur Rs s.boils
  p0 : r0.Pairwise fun a c => beneathB b c a = true
  ps : ∀ r ∈ rs, r.Pairwise fun a c => beneathB b c a = true
  nd : (D ++ (r0 ++ rs.flatten)).Nodup
  all : ∀ d, d ∈ left ↔ d ∈ r0 ++ rs.flatten
  fr : ∀ d ∈ r0, ∀ i, i < b.length → lacksC (cellAt b i) d = true → (W[i]?).getD false = false
  cnt : s.boils + rs.length + 1 = (stretchB b).length
theorem part_start {n : Nat} {b : List Cell} (hs : Sized n b) (hn : n ≤ 12) : Part n b ⟨b, [], 0⟩ [] (b.map (·.wx)) (neededL b) [12] [] (stretchB b).head! (stretchB b).tail := by
  obtain ⟨w1, w2⟩ := stretch_pw hs hn
  have pm := stretch_perm hs hn
  have es : stretchB b = (stretchB b).head! :: (stretchB b).tail := rfl
  have ef : (stretchB b).flatten = (stretchB b).head! ++ (stretchB b).tail.flatten := by rw [es]; rfl
  rw [List.pairwise_cons] at w1
  refine ⟨by rw [mark_nil], ⟨fun d hd => ⟨hd, by simp⟩, fun d hd => .inl hd, fun r hr => ?_, fun d hd => ?_, rfl, fun x hx x12 => ?_, fun _ i hi hw => ?_, fun x hx => ?_⟩, w1.2, fun r hr => w2 r (by rw [es]; simp [hr]), ?_, fun d => ?_, fun d hd i hi hl => ?_, ?_⟩
  · intro x hx y hy
    simp at hr
    subst hr
    simp at hx hy
    exact .inl (by rw [hx, hy])
  · simp at hd ⊢
    exact hd
  · exact absurd (by simpa using hx) x12
  · have e : (b.map (·.wx))[i]? = some (cellAt b i).wx := by simp [cellAt, hi]
    rw [e]; exact hw
  · exact .inl (by simpa using hx)
  · rw [List.nil_append, ← ef]
    have := members_nd hs hn
    unfold membersL at this
    exact pm.nodup_iff.mpr (List.nodup_append.mp this).1
  · rw [← ef]
    exact ⟨fun h => pm.symm.subset h, fun h => pm.subset h⟩
  · have hb := w1.1 d hd
    unfold beneathB at hb
    by_cases q : d = 12 ∨ d = 12
    · rw [if_pos (by rcases q with q | q <;> exact .inl q)] at hb; cases hb
    · have d12 : ¬ d = 12 := fun e => q (.inl e)
      rw [if_neg (by simp [d12]), if_pos rfl] at hb
      have e : (b.map (·.wx))[i]? = some (cellAt b i).wx := by simp [cellAt, hi]
      rw [e]
      unfold freeB at hb
      rw [Bool.not_eq_true', List.any_eq_false] at hb
      have := hb _ (cellAt_mem hi)
      rw [hl] at this
      show (cellAt b i).wx = false
      simpa using this
  · show 0 + (stretchB b).tail.length + 1 = _
    conv => rhs; rw [es]
    simp
theorem part_step {n : Nat} {b : List Cell} {s : Wk} {D : List Nat} {W : List Bool} {left cur : List Nat} {Rs : List (List Nat)} {r0 : List Nat} {rs : List (List Nat)} {m : Mv} {q : List Mv} (hs : Sized n b) (hn : n ≤ 12) (h : Part n b s D W left cur Rs r0 rs)
    (e : smF b r0 W ++ restF b rs = m :: q) : ∃ D' W' left' cur' Rs' r0' rs', Part n b (stepM s m) D' W' left' cur' Rs' r0' rs' ∧ smF b r0' W' ++ restF b rs' = q := by
  obtain ⟨st, ri, p0, ps, nd, all, fr, cnt⟩ := h
  cases r0 with
  | nil =>
    cases rs with
    | nil => simp [smF, restF] at e
    | cons r rs =>
      have e : Mv.boil :: (smF b r (b.map fun _ => false) ++ restF b rs) = m :: q := by
        rw [← e]; rfl
      injection e with e1 e2
      subst e1
      refine ⟨D, b.map fun _ => false, left, [], cur :: Rs, r, rs, ⟨?_, ?_, ps r (by simp), fun x hx => ps x (by simp [hx]), by simpa using nd, fun d => by rw [all d]; simp, fun d hd i hi hl => by simp [hi], ?_⟩, e2⟩
      · rw [st, step_boil, boil_mark]
      · have := row_boil ri
        rw [st, step_boil]
        exact this
      · rw [st, step_boil]
        simp at cnt ⊢
        omega
  | cons d r =>
    rw [List.pairwise_cons] at p0
    have dl : d ∈ left := (all d).mpr (by simp)
    have dneed := (ri.lf d dl).1
    have dD := (ri.lf d dl).2
    have dn := needed_lt hs dneed
    have good := fr d (by simp)
    have sub : ∀ x ∈ r, ∀ i, i < b.length → lacksC (cellAt b i) x = true → lacksC (cellAt b i) d = true := fun x hx i hi hl => by
      have hb := p0.1 x hx
      unfold beneathB at hb
      by_cases q : x = d ∨ x = 12
      · rw [if_pos q] at hb; cases hb
      · rw [if_neg q, if_neg (by omega)] at hb
        unfold withinB at hb
        rw [Bool.and_eq_true] at hb
        exact subB_iff.mp hb.1 _ (cellAt_mem hi) hl
    by_cases h0 : toWaxF b d W = []
    · have e : Mv.dip d :: (smF b r (waxed b d W) ++ restF b rs) = m :: q := by
        rw [← e]
        show _ = ((if toWaxF b d W = [] then [] else [Mv.wax (toWaxF b d W)]) ++ Mv.dip d :: smF b r (waxed b d W)) ++ restF b rs
        rw [if_pos h0]
        rfl
      injection e with e1 e2
      subst e1
      have wat : ∀ i, i < b.length → (((waxed b d W)[i]?).getD false = !lacksC (cellAt b i) d) := fun i hi => by
        rw [waxed_at hi]
        cases hl : lacksC (cellAt b i) d with
        | false => simp
        | true => rw [good i hi hl]; rfl
      refine ⟨D ++ [d], waxed b d W, left.filter fun x => !decide (x = d), d :: cur, Rs, r, rs, ⟨?_, ?_, p0.2, ps, by simpa using nd, fun x => ?_, fun x hx i hi hl => ?_, ?_⟩, e2⟩
      · rw [st, step_dip, ← wax_none (D := D) h0, mark_dip hs dn dD wat]
      · have := row_dip hs hn ri dl good
        rw [st, step_dip]
        exact this
      · rw [List.mem_filter, all x]
        have nd2 := (List.nodup_append.mp nd).2.1
        rw [List.cons_append, List.nodup_cons] at nd2
        constructor
        · rintro ⟨h1, h2⟩
          rw [List.cons_append] at h1
          rcases List.mem_cons.mp h1 with q | q
          · simp [q] at h2
          · exact q
        · intro h1
          refine ⟨by rw [List.cons_append]; exact List.mem_cons_of_mem _ h1, ?_⟩
          have : x ≠ d := fun q => nd2.1 (q ▸ h1)
          simp [this]
      · rw [wat i hi, sub x hx i hi hl]; rfl
      · rw [st, step_dip]
        exact cnt
    · have e : Mv.wax (toWaxF b d W) :: (Mv.dip d :: smF b r (waxed b d W) ++ restF b rs) = m :: q := by
        rw [← e]
        show _ = ((if toWaxF b d W = [] then [] else [Mv.wax (toWaxF b d W)]) ++ Mv.dip d :: smF b r (waxed b d W)) ++ restF b rs
        rw [if_neg h0]
        rfl
      injection e with e1 e2
      subst e1
      refine ⟨D, waxed b d W, left, cur, Rs, d :: r, rs, ⟨?_, ?_, List.pairwise_cons.mpr p0, ps, nd, all, fun x hx i hi hl => ?_, ?_⟩, ?_⟩
      · rw [st, step_wax, mark_wax]
      · have := rowIn_more (d := d) ri
        rw [st, step_wax]
        exact this
      · rw [waxed_at hi]
        have hld : lacksC (cellAt b i) d = true := by
          rcases List.mem_cons.mp hx with q | q
          · rw [← q]; exact hl
          · exact sub x q i hi hl
        rw [good i hi hld, hld]
        rfl
      · rw [st, step_wax]
        exact cnt
      · rw [← e2]
        show ((if toWaxF b d (waxed b d W) = [] then [] else [Mv.wax (toWaxF b d (waxed b d W))]) ++ Mv.dip d :: smF b r (waxed b d (waxed b d W))) ++ restF b rs = _
        rw [if_pos toWax_waxed, waxed_idem]
        rfl
theorem part_any {n : Nat} {b : List Cell} (hs : Sized n b) (hn : n ≤ 12) : ∀ (p q : List Mv) (s : Wk) (D : List Nat) (W : List Bool) (left cur : List Nat) (Rs : List (List Nat)) (r0 : List Nat) (rs : List (List Nat)), Part n b s D W left cur Rs r0 rs → smF b r0 W ++ restF b rs = p ++ q →
    ∃ D' W' left' cur' Rs' r0' rs', Part n b (runM s p) D' W' left' cur' Rs' r0' rs' ∧ smF b r0' W' ++ restF b rs' = q
  | [], q, s, D, W, left, cur, Rs, r0, rs, h, e => ⟨D, W, left, cur, Rs, r0, rs, h, e⟩
  | m :: p, q, s, D, W, left, cur, Rs, r0, rs, h, e => by
    obtain ⟨D', W', left', cur', Rs', r0', rs', h1, e1⟩ := part_step hs hn h (q := p ++ q) e
    exact part_any hs hn p q (stepM s m) D' W' left' cur' Rs' r0' rs' h1 e1
/-! ### a part that ends amid a waxing -/
def orW (b : List Cell) (W : List Bool) (cs : List Nat) : List Bool := (List.range b.length).map fun i => (W[i]?).getD false || decide (i ∈ cs)
theorem orW_at {b : List Cell} {W : List Bool} {cs : List Nat} {i : Nat} (hi : i < b.length) : ((orW b W cs)[i]?).getD false = ((W[i]?).getD false || decide (i ∈ cs)) := by simp [orW, hi]
theorem mark_orW {b : List Cell} {D : List Nat} {W : List Bool} {cs : List Nat} : waxB (markB b D W) (cs.map Int.ofNat) = markB b D (orW b W cs) := by
  unfold waxB
  rw [mark_len]
  conv => rhs; unfold markB
  apply List.map_congr_left
  intro i hi
  have hi : i < b.length := by simpa using hi
  rw [mark_at hi, orW_at hi]
  have e : decide ((i : Int) ∈ cs.map Int.ofNat) = decide (i ∈ cs) := by
    rw [decide_eq_decide, List.mem_map]
    constructor
    · rintro ⟨j, h, e⟩
      have e : (j : Int) = (i : Int) := e
      have : j = i := by omega
      exact this ▸ h
    · exact fun h => ⟨i, h, rfl⟩
  unfold waxC
  rw [e]
  rfl
theorem part_mid {n : Nat} {b : List Cell} {s : Wk} {D : List Nat} {W : List Bool} {left cur : List Nat} {Rs : List (List Nat)} {r0 : List Nat} {rs : List (List Nat)} {cs cs' : List Nat} {q : List Mv} (hs : Sized n b) (hn : n ≤ 12) (h : Part n b s D W left cur Rs r0 rs)
    (e : smF b r0 W ++ restF b rs = .wax cs :: q) (hc : ∀ i ∈ cs', i ∈ cs) : Part n b (stepM s (.wax cs')) D (orW b W cs') left cur Rs r0 rs := by
  obtain ⟨st, ri, p0, ps, nd, all, fr, cnt⟩ := h
  cases r0 with
  | nil =>
    cases rs with
    | nil => simp [smF, restF] at e
    | cons r rs =>
      have e : Mv.boil :: (smF b r (b.map fun _ => false) ++ restF b rs) = .wax cs :: q := by
        rw [← e]; rfl
      cases e
  | cons d r =>
    have p0' := p0
    rw [List.pairwise_cons] at p0
    have dl : d ∈ left := (all d).mpr (by simp)
    have dn := needed_lt hs (ri.lf d dl).1
    have sub : ∀ x ∈ r, ∀ i, i < b.length → lacksC (cellAt b i) x = true → lacksC (cellAt b i) d = true := fun x hx i hi hl => by
      have hb := p0.1 x hx
      unfold beneathB at hb
      by_cases q : x = d ∨ x = 12
      · rw [if_pos q] at hb; cases hb
      · rw [if_neg q, if_neg (by omega)] at hb
        unfold withinB at hb
        rw [Bool.and_eq_true] at hb
        exact subB_iff.mp hb.1 _ (cellAt_mem hi) hl
    by_cases h0 : toWaxF b d W = []
    · have e : Mv.dip d :: (smF b r (waxed b d W) ++ restF b rs) = .wax cs :: q := by
        rw [← e]
        show _ = ((if toWaxF b d W = [] then [] else [Mv.wax (toWaxF b d W)]) ++ Mv.dip d :: smF b r (waxed b d W)) ++ restF b rs
        rw [if_pos h0]
        rfl
      cases e
    · have e : Mv.wax (toWaxF b d W) :: (Mv.dip d :: smF b r (waxed b d W) ++ restF b rs) = .wax cs :: q := by
        rw [← e]
        show _ = ((if toWaxF b d W = [] then [] else [Mv.wax (toWaxF b d W)]) ++ Mv.dip d :: smF b r (waxed b d W)) ++ restF b rs
        rw [if_neg h0]
        rfl
      injection e with e1 e2
      injection e1 with e1
      subst e1
      refine ⟨?_, ?_, p0', ps, nd, all, fun x hx i hi hl => ?_, ?_⟩
      · rw [st, step_wax, mark_orW]
      · rw [st, step_wax]
        refine ⟨ri.lf, ri.al, ri.ch, ri.al2, ri.nb, fun x hx x12 i hi hw => ?_, fun hx i hi hw => ?_, ri.cn⟩
        · rw [orW_at hi] at hw
          refine ri.un x hx x12 i hi ?_
          cases q : (W[i]?).getD false with
          | false => rfl
          | true => rw [q] at hw; cases hw
        · rw [orW_at hi, ri.c12 hx i hi hw]
          rfl
      · rw [orW_at hi, fr x hx i hi hl]
        have hld : lacksC (cellAt b i) d = true := by
          rcases List.mem_cons.mp hx with q | q
          · rw [← q]; exact hl
          · exact sub x q i hi hl
        have : i ∉ cs' := fun h => by
          have := (List.mem_filter.mp (hc i h)).2
          rw [hld] at this
          simp at this
        simp [this]
      · rw [st, step_wax]
        exact cnt
theorem mark_ws {D : List Nat} {w : Bool} {c : Cell} : (markC D w c).ws = c.ws := rfl
theorem mark_fit {n : Nat} {b : List Cell} {D : List Nat} {W : List Bool} (hf : Fit n b) : Fit n (markB b D W) := by
  refine ⟨mark_sized hf.sz, fun c hc k hk => ?_, fun c hc k hk => ?_⟩
  · obtain ⟨i, hi, e⟩ := List.mem_map.mp hc
    have hi : i < b.length := by simpa using hi
    have hk2 : k < (cellAt b i).st.length := by rw [(hf.sz.2.2 _ (cellAt_mem hi)).1]; exact hk
    have ti := hf.ti _ (cellAt_mem hi) k hk
    rw [← e, mark_ws, mark_sd hk2]
    by_cases q : k ∈ D ∧ lacksC (cellAt b i) k = true
    · rw [if_pos q]
      have := q.2
      simp [lacksC] at this
      left
      omega
    · rw [if_neg q]
      omega
  · obtain ⟨i, hi, e⟩ := List.mem_map.mp hc
    have hi : i < b.length := by simpa using hi
    rw [← e, mark_ws]
    exact hf.w9 _ (cellAt_mem hi) k hk
/-- a dye that was dipped is lacked no more -/
theorem mark_done {n : Nat} {b : List Cell} {D : List Nat} {W : List Bool} {d i : Nat} (hf : Fit n b) (hi : i < b.length) (hd : d < n) (hD : d ∈ D) : lacksC (cellAt (markB b D W) i) d = false := by
  rw [mark_at hi]
  have hk : d < (cellAt b i).st.length := by rw [(hf.sz.2.2 _ (cellAt_mem hi)).1]; exact hd
  have ti := hf.ti _ (cellAt_mem hi) d hd
  unfold lacksC
  rw [mark_sd hk, mark_ws]
  by_cases q : lacksC (cellAt b i) d = true
  · rw [if_pos ⟨hD, q⟩]
    simp [lacksC] at q
    simp
    omega
  · rw [if_neg fun h => q h.2]
    simp [lacksC] at q
    simp
    omega
theorem mark_needed {n : Nat} {b : List Cell} {D : List Nat} {W : List Bool} {d : Nat} (hf : Fit n b) (hd : d < n) : isNeeded (markB b D W) d = (isNeeded b d && !decide (d ∈ D)) := by
  have e : isNeeded (markB b D W) d = true ↔ isNeeded b d = true ∧ d ∉ D := by
    rw [needed_iff, needed_iff]
    by_cases q : d ∈ D
    · have : lackL (markB b D W) d = [] := by
        unfold lackL
        rw [List.filter_eq_nil_iff]
        intro i hi
        have hi : i < b.length := by simpa [mark_len] using hi
        rw [mark_done hf hi hd q]
        simp
      simp [this, q]
    · rw [mark_lackL hf.sz hd q]
      simp [q]
  rw [Bool.eq_iff_iff, e]
  simp
theorem mark_pots {n : Nat} {b : List Cell} {D : List Nat} {W : List Bool} : potsB (markB b D W) = potsB b := by
  cases b with
  | nil => rfl
  | cons c b =>
    have e : markB (c :: b) D W = markC D ((W[0]?).getD false) (cellAt (c :: b) 0) :: (List.range b.length).map fun i => markC D ((W[i + 1]?).getD false) (cellAt (c :: b) (i + 1)) := by
      unfold markB
      rw [List.length_cons, List.range_succ_eq_map, List.map_cons, List.map_map]
      rfl
    rw [e]
    simp [potsB, markC, cellAt]
theorem mark_neededL {n : Nat} {b : List Cell} {D : List Nat} {W : List Bool} (hf : Fit n b) : neededL (markB b D W) = (neededL b).filter fun d => !decide (d ∈ D) := by
  unfold neededL
  rw [mark_pots (n := n), List.filter_filter]
  apply List.filter_congr
  intro d hd
  by_cases hb : d < n
  · rw [mark_needed hf hb, Bool.and_comm]
  · exfalso
    have hd : d < potsB b := by simpa using hd
    have : potsB b ≤ n := by
      cases b with
      | nil => exact Nat.zero_le _
      | cons c b => exact Nat.le_of_eq (hf.sz.2.2 c (by simp)).1
    omega
theorem mark_sub {n : Nat} {b : List Cell} {D : List Nat} {W : List Bool} {x y : Nat} (hs : Sized n b) (hx : x < n) (hy : y < n) (dx : x ∉ D) (dy : y ∉ D) : subB (markB b D W) x y = subB b x y := by
  rw [Bool.eq_iff_iff, sub_lackL, sub_lackL, mark_lackL hs hx dx, mark_lackL hs hy dy]
theorem mark_beneath {n : Nat} {b : List Cell} {D : List Nat} {W : List Bool} {x y : Nat} (hs : Sized n b) (hn : n ≤ 12) (hx : x < n) (hy : y < n) (dx : x ∉ D) (dy : y ∉ D) : beneathB (markB b D W) x y = beneathB b x y := by
  unfold beneathB
  rw [if_neg (show ¬ y = 12 from by omega), if_neg (show ¬ y = 12 from by omega)]
  unfold withinB
  rw [mark_sub hs hx hy dx dy, mark_sub hs hy hx dy dx]
theorem pw_chain {B : Nat → Nat → Bool} : ∀ {r : List Nat}, (r.Pairwise fun a c => B c a = true) → ∀ x ∈ r, ∀ y ∈ r, x = y ∨ B x y = true ∨ B y x = true
  | [], _, x, hx, _, _ => by cases hx
  | z :: r, h, x, hx, y, hy => by
    rw [List.pairwise_cons] at h
    rcases List.mem_cons.mp hx with e | hx <;> rcases List.mem_cons.mp hy with f | hy
    · exact .inl (e.trans f.symm)
    · rw [e]; exact .inr (.inr (h.1 y hy))
    · rw [f]; exact .inr (.inl (h.1 x hx))
    · exact pw_chain h.2 x hx y hy
/-- behind any part of the plan: as many boilings as the rest has -/
theorem part_len {n : Nat} {b : List Cell} {s : Wk} {D : List Nat} {W : List Bool} {left cur : List Nat} {Rs : List (List Nat)} {r0 : List Nat} {rs : List (List Nat)} (hf : Fit n b) (hn : n ≤ 12) (h : Part n b s D W left cur Rs r0 rs) :
    (stretchB (markB b D W)).length + s.boils = (stretchB b).length := by
  have hs := hf.sz
  obtain ⟨st, ri, p0, ps, nd, all, fr, cnt⟩ := h
  have hs1 := mark_sized (D := D) (W := W) hs
  have lt : ∀ d ∈ left, d < n := fun d hd => needed_lt hs (ri.lf d hd).1
  have need1 : ∀ d, d ∈ neededL (markB b D W) ↔ d ∈ left := fun d => by
    rw [mark_neededL hf, List.mem_filter]
    constructor
    · rintro ⟨h1, h2⟩
      rcases ri.al d h1 with q | q
      · exact q
      · simp [q] at h2
    · intro h1
      exact ⟨(ri.lf d h1).1, by simp [(ri.lf d h1).2]⟩
  have lowD : ∀ x ∈ r0 ++ rs.flatten, x ∈ left := fun x hx => (all x).mpr hx
  -- not more
  have up : (stretchB (markB b D W)).length ≤ ((12 :: r0) :: rs).length := by
    refine stretch_ub hs1 hn (fun r hr => ?_) fun x hx => ?_
    · rcases List.mem_cons.mp hr with e | hr
      · subst e
        have c12 : ∀ x ∈ r0, beneathB (markB b D W) x 12 = true := fun x hx => by
          have xl := lowD x (by simp [hx])
          have x12 : x ≠ 12 := by have := lt x xl; omega
          unfold beneathB
          rw [if_neg (by simp [x12]), if_pos rfl]
          unfold freeB
          rw [Bool.not_eq_true', List.any_eq_false]
          intro c hc
          obtain ⟨i, hi, rfl⟩ := mem_cell hc
          rw [mark_len] at hi
          rw [mark_lacks hs hi (lt x xl) (ri.lf x xl).2, mark_at hi, mark_wx]
          cases hl : lacksC (cellAt b i) x with
          | false => simp
          | true => rw [fr x hx i hi hl]; simp
        intro x hx y hy
        rcases List.mem_cons.mp hx with e | hx <;> rcases List.mem_cons.mp hy with f | hy
        · exact .inl (e.trans f.symm)
        · rw [e]; exact .inr (.inr (c12 y hy))
        · rw [f]; exact .inr (.inl (c12 x hx))
        · have xl := lowD x (by simp [hx])
          have yl := lowD y (by simp [hy])
          rw [mark_beneath hs hn (lt x xl) (lt y yl) (ri.lf x xl).2 (ri.lf y yl).2, mark_beneath hs hn (lt y yl) (lt x xl) (ri.lf y yl).2 (ri.lf x xl).2]
          exact pw_chain p0 x hx y hy
      · intro x hx y hy
        have xl := lowD x (by rw [List.mem_append]; exact .inr (List.mem_flatten.mpr ⟨r, hr, hx⟩))
        have yl := lowD y (by rw [List.mem_append]; exact .inr (List.mem_flatten.mpr ⟨r, hr, hy⟩))
        rw [mark_beneath hs hn (lt x xl) (lt y yl) (ri.lf x xl).2 (ri.lf y yl).2, mark_beneath hs hn (lt y yl) (lt x xl) (ri.lf y yl).2 (ri.lf x xl).2]
        exact pw_chain (ps r hr) x hx y hy
    · rw [List.flatten_cons]
      unfold membersL at hx
      rcases List.mem_append.mp hx with q | q
      · have := (all x).mp ((need1 x).mp q)
        rw [List.cons_append]
        exact List.mem_cons_of_mem _ this
      · have : x = 12 := by simpa using q
        simp [this]
  -- not less
  have lo : (stretchB b).length ≤ ((cur ++ (stretchB (markB b D W)).head!) :: (Rs ++ (stretchB (markB b D W)).tail)).length := by
    obtain ⟨w1, w2⟩ := stretch_pw hs1 hn
    have pm := stretch_perm hs1 hn
    have es : stretchB (markB b D W) = (stretchB (markB b D W)).head! :: (stretchB (markB b D W)).tail := rfl
    have ef : (stretchB (markB b D W)).flatten = (stretchB (markB b D W)).head! ++ (stretchB (markB b D W)).tail.flatten := by rw [es]; rfl
    generalize (stretchB (markB b D W)).head! = H at w1 es ef ⊢
    generalize (stretchB (markB b D W)).tail = T at es ef ⊢
    rw [es] at w2
    have inl : ∀ x ∈ H ++ T.flatten, x ∈ left := fun x hx => (need1 x).mp (pm.subset (by rw [ef]; exact hx))
    rw [List.pairwise_cons] at w1
    have good : ∀ y ∈ H, ∀ i, i < b.length → lacksC (cellAt b i) y = true → (W[i]?).getD false = false := fun y hy i hi hl => by
      have yl := inl y (by simp [hy])
      have hb := w1.1 y hy
      have y12 : y ≠ 12 := by have := lt y yl; omega
      unfold beneathB at hb
      rw [if_neg (by simp [y12]), if_pos rfl] at hb
      unfold freeB at hb
      rw [Bool.not_eq_true', List.any_eq_false] at hb
      have := hb _ (cellAt_mem (b := markB b D W) (i := i) (by rw [mark_len]; exact hi))
      rw [mark_lacks hs hi (lt y yl) (ri.lf y yl).2, mark_at hi, mark_wx, hl] at this
      simpa using this
    have cmp : ∀ x ∈ cur, ∀ y ∈ H, y = x ∨ beneathB b y x = true ∨ beneathB b x y = true := fun x hx y hy => by
      have r2 := row_dip hs hn ri (inl y (by simp [hy])) (good y hy)
      exact r2.ch (y :: cur) (by simp) y (by simp) x (by simp [hx])
    have back : ∀ r ∈ H :: T, ∀ x ∈ r, ∀ y ∈ r, x = y ∨ beneathB b x y = true ∨ beneathB b y x = true := fun r hr x hx y hy => by
      have mem : ∀ z ∈ r, z ∈ H ++ T.flatten := fun z hz => by
        rcases List.mem_cons.mp hr with e | hr
        · rw [← e]; exact List.mem_append_left _ hz
        · exact List.mem_append_right _ (List.mem_flatten.mpr ⟨r, hr, hz⟩)
      have xl := inl x (mem x hx)
      have yl := inl y (mem y hy)
      have := pw_chain (w2 r hr) x hx y hy
      rwa [mark_beneath hs hn (lt x xl) (lt y yl) (ri.lf x xl).2 (ri.lf y yl).2, mark_beneath hs hn (lt y yl) (lt x xl) (ri.lf y yl).2 (ri.lf x xl).2] at this
    refine stretch_ub hs hn (fun r hr => ?_) fun x hx => ?_
    · rcases List.mem_cons.mp hr with e | hr
      · subst e
        intro x hx y hy
        rcases List.mem_append.mp hx with p | p <;> rcases List.mem_append.mp hy with q | q
        · exact ri.ch cur (by simp) x p y q
        · rcases cmp x p y q with c | c | c
          · exact .inl c.symm
          · exact .inr (.inr c)
          · exact .inr (.inl c)
        · exact cmp y q x p
        · exact back H (by simp) x p y q
      · rcases List.mem_append.mp hr with q | q
        · exact ri.ch r (by simp [q])
        · exact back r (by simp [q])
    · rw [List.flatten_cons, List.flatten_append]
      have mv : ∀ z, z ∈ (cur :: Rs).flatten → z ∈ cur ++ H ++ (Rs.flatten ++ T.flatten) := fun z hz => by
        rw [List.flatten_cons] at hz
        simp only [List.mem_append] at hz ⊢
        rcases hz with q | q
        · exact .inl (.inl q)
        · exact .inr (.inl q)
      unfold membersL at hx
      rcases List.mem_append.mp hx with q | q
      · rcases ri.al x q with p | p
        · have := pm.symm.subset ((need1 x).mpr p)
          rw [ef] at this
          simp only [List.mem_append] at this ⊢
          rcases this with r | r
          · exact .inl (.inr r)
          · exact .inr (.inr r)
        · exact mv x (ri.al2 x (.inl p))
      · exact mv x (ri.al2 x (.inr (by simpa using q)))
  have s1 : (stretchB (markB b D W)).length = (stretchB (markB b D W)).tail.length + 1 := by
    have es : stretchB (markB b D W) = (stretchB (markB b D W)).head! :: (stretchB (markB b D W)).tail := rfl
    conv => lhs; rw [es]
    simp
  have nb := ri.nb
  rw [List.length_cons] at up lo
  rw [List.length_append] at lo
  omega
end Wx

namespace Wx
open PySem PySem.Spec PyProof.Rows L2
/-! ### data without dicts is equal to itself -/
mutual
theorem eqv_self : ∀ d : PyData, d.canLay0 = true → PyData.eqv d d = true
  | .none, _ => by simp [PyData.eqv]
  | .bool b, _ => by simp
  | .int i, _ => by simp
  | .str x, _ => by simp
  | .list ds, c => by rw [PyData.eqv]; exact eqvAll_self ds (by rw [PyData.canLay0] at c; exact c)
  | .tuple ds, c => by rw [PyData.eqv]; exact eqvAll_self ds (by rw [PyData.canLay0] at c; exact c)
  | .dict _, c => by rw [PyData.canLay0] at c; cases c
theorem eqvAll_self : ∀ ds : List PyData, PyData.canLayAll0 ds = true → PyData.eqvAll ds ds = true
  | [], _ => by simp [PyData.eqvAll]
  | d :: ds, c => by
    rw [PyData.canLayAll0, Bool.and_eq_true] at c
    rw [PyData.eqvAll, eqv_self d c.1, eqvAll_self ds c.2]
    rfl
end
theorem fEq_self {d : PyData} {n : Nat} {R : PyData → Prop} (h : Lay n d) (hn : n ≤ 64) : fEq d d R = R (.bool true) := by
  unfold fEq
  rw [eqv_self d h.1, show sh d = True from eq_true (h.sh hn)]
  simp
theorem fNe_self {d : PyData} {n : Nat} {R : PyData → Prop} (h : Lay n d) (hn : n ≤ 64) : fNe d d R = R (.bool false) := by
  unfold fNe
  rw [eqv_self d h.1, show sh d = True from eq_true (h.sh hn)]
  simp
/-! ### an error with its own __init__: what the written part says of its class -/
theorem objB_ok {C : Addr} {o : Option Obj} (h : objB C o = true) : ∃ nm q N bs bm sn sub ab col dd k0 k1 k2 k3 k5, o = some (excClassObj nm q C N bs bm true sn sub ab col dd k0 k1 k2 k3 k5 "ValueError.__new__") ∧ PySem.HandSPX.refsVE bm = true := by
  unfold objB at h
  split at h
  · rename_i T dd cd sl
    rw [Bool.and_eq_true, Bool.and_eq_true, Bool.and_eq_true] at h
    obtain ⟨hT, hd, hdel, h⟩ := h
    split at h
    · rename_i C' bm k0 k1 k2 k3 n k5 hm hs
      rw [Bool.and_eq_true, Bool.and_eq_true] at h
      obtain ⟨hC, hn, hr⟩ := h
      have hT := of_decide_eq_true hT
      have hC := of_decide_eq_true hC
      have hn := of_decide_eq_true hn
      subst hT hC hn
      obtain ⟨nm, bs, mro, ns, qn, hdi, sn, sub, ab, col, del⟩ := cd
      dsimp only at hm hdel hd
      have hdel : del = false := by simpa using hdel
      subst hm hdel hd
      have hsl : sl = #[k0, k1, k2, k3, some (.builtin "ValueError.__new__"), k5] := by
        obtain ⟨l⟩ := sl
        simp only at hs
        rw [hs]
      subst hsl
      exact ⟨nm, qn, ns, bs, bm, sn, sub, ab, col, dd, k0, k1, k2, k3, k5, rfl, hr⟩
    · cases h
  · cases h
theorem oexB_ok {K : PySem.W.Frag} {C : Addr} (h : oexB K C = true) : OexC K C := by
  unfold oexB at h
  rw [Bool.and_eq_true, Bool.and_eq_true, Bool.and_eq_true, Bool.and_eq_true] at h
  obtain ⟨h1, h2, h3, h4, h5⟩ := h
  exact ⟨objB_ok h1, of_decide_eq_true h2, of_decide_eq_true h3, of_decide_eq_true h4, h5⟩
theorem exb_at {ex : PySem.W.Frag → List Bool} {K : PySem.W.Frag} (h : ((ex K).all id) = true) (i : Nat) {b : Bool} (e : (ex K)[i]? = some b) : b = true :=
  List.all_eq_true.mp h b (List.mem_of_getElem? e)
structure BarK (K : PySem.W.Frag) (x : Str) : Prop where
  o : OexC K (He.ga K x)
  xf : XfC K (He.ga K x)
  no : PySem.W.findIn K (.ref (He.ga K x)) "bars" = some none
  i : PySem.W.findIn K (.ref (He.ga K x)) "__init__" = some (some (.ref (He.ma K (He.ga K x) "__init__")))
  t : PySem.W.typeIn K (.ref (He.ma K (He.ga K x) "__init__")) = some (.type "function")
theorem barB_ok {K : PySem.W.Frag} {x : Str} (h : barB K x = true) : BarK K x := by
  unfold barB at h
  rw [Bool.and_eq_true, Bool.and_eq_true, Bool.and_eq_true, Bool.and_eq_true] at h
  obtain ⟨h1, h2, h3, h4, h5⟩ := h
  exact ⟨oexB_ok h1, xfB_ok h2, of_decide_eq_true h3, of_decide_eq_true h4, of_decide_eq_true h5⟩
/-! ### its __init__: self.bars = list(bars) -/
def spBar (K : PySem.W.Frag) : Sp := fun vs H Q _ => ∃ (a C b : Addr) (xs : List V), vs = [.ref a, .ref b] ∧ OexC K C ∧ PySem.W.findIn K (.ref C) "bars" = some none ∧ H a = some (exo a C none) ∧ SqL K H b xs ∧
  ∀ p dx, H p = none → (upd H p (.lst xs)) dx = none → dx ≠ a → Q .non (upd (upd (upd H p (.lst xs)) dx (exd dx [("bars", .ref p)])) a (exo a C (some dx)))
def t_bar (K : PySem.W.Frag) : TS := tOst K "bars" (tVar 0) (tCB (fun xs H Q => ∃ p ys, xs = [.ref p] ∧ (SqL K H p ys ∨ SqT K H p ys) ∧ ∀ l, H l = none → Q (.ref l) (upd H l (.lst ys))) (tCons (tVar 1) tNil))
theorem pure_bar {K : PySem.W.Frag} {vs : List V} {H : Hp} {Q : VK} {E : XK} (h : spBar K vs H Q E) : t_bar K { nx := fun _ H' => Q .non H', rt := Q } (L2.start ["self", "bars"] vs) H := by
  obtain ⟨a, C, b, xs, rfl, T, no, ha, hb, hQ⟩ := h
  refine ⟨.ref b, rfl, b, xs, rfl, .inl hb, fun p hp => ?_⟩
  have pa : a ≠ p := fun e => by rw [e, hp] at ha; cases ha
  exact ⟨.ref a, rfl, a, C, rfl, T, no, .inl ⟨by rw [upd_ne pa]; exact ha, fun dx hdx da => hQ p dx hp hdx da⟩⟩
structure BarAt (P : Program) (w : World) (K : PySem.W.Frag) (mg : Str → Option Value) (base : Heap) (x : Str) : Prop where
  g : mg x = some (.ref (He.ga K x))
  b : BarK K x
  f : ∃ fd, FnOk P w K mg base CX0 1 (He.ma K (He.ga K x) "__init__") fd ["self", "bars"] (spBar K) ∧ Binds K fd ["self", "bars"] []
section
variable {X : Cx} {W : WX} {e : Expr} {de : DE} {p pos pos2 : Pos}
/-- raise C(e): its bars become a cell of their own -/
def dRaiseB (x : Str) (de : DE) : DS := fun R E => de E (fun d M => ∃ ds, d = .list ds ∧ ∀ q, M q = none → R.ex (x, some (cellD q)) E (M.set q (.lst ds))) (fun y => R.ex y E)
theorem s_raiseBar {x : Str} {k : Nat} (T : BarAt X.prog X.w X.K X.mg X.base x) (hr : Room k X.A) (hc : X.calm = true) (tk : Takes X W) (he : QE X W e de) (hk : 2 ≤ k := by decide) (hg : Gl X x := by rfl) (hdb : (x == ("__debug__" : Str)) = false := by decide)
    (hs : starEach [e] X.env = (false, eval e X.env) :: starEach [] X.env := by rfl) : QS X W (.Raise (some (.Call (.Name x p) [e] [] pos2)) none pos) (dRaiseB x de) := by
  obtain ⟨fd, F, B⟩ := T.f
  have hx : Passes CX0 X (fun _ _ _ => False) := by
    intro pins σ H s er s' I q
    exact False.elim q
  refine ps_imp (ps_raise hc tk (pmk_oex T.b.o T.b.i T.b.t F (hr.mono hk) B .nil hx hg T.g (pa_cons he pa_nil hs) hdb hs)) fun D σ H ⟨P, R, S, h, L⟩ => ?_
  refine ⟨P, _, _, S, h, fun v G1 H1 d e1 S1 r1 ⟨ds, ed, hR⟩ => ?_, fun y cls dd G' H' S' er hx => L.ex y cls dd G' H' σ P.E S' er hx⟩
  subst ed
  cases r1 with
  | @lst b xs ds' hb rr =>
    refine ⟨by show 1 ≤ 1000; decide, fun a ha => ?_⟩
    have ba : b ≠ a := fun z => by
      have := S1.w.s b _ hb
      rw [z, ha] at this; cases this
    refine ⟨a, _, b, xs, rfl, T.b.o, T.b.no, upd_same, SqL.of (by rw [upd_ne ba]; exact S1.w.s _ _ hb), fun q dx hq hdx da => ?_⟩
    have qa : q ≠ a := fun z => by rw [z, upd_same] at hq; cases hq
    have hq1 : H1 q = none := by rw [upd_ne qa] at hq; exact hq
    have dq : dx ≠ q := fun z => by rw [z, upd_same] at hdx; cases hdx
    have hd1 : H1 dx = none := by rw [upd_ne dq, upd_ne da] at hdx; exact hdx
    refine ⟨rfl, dx, [("bars", .ref q)], upd_same, by rw [upd_ne da]; exact upd_same, hd1, ?_⟩
    have eH : upd (del (upd (upd (upd (upd H1 a (exo a (He.ga X.K x) none)) q (.lst xs)) dx (exd dx [("bars", .ref q)])) a (exo a (He.ga X.K x) (some dx))) a) dx (.xd [("bars", .ref q)]) = upd (upd H1 q (.lst xs)) dx (.xd [("bars", .ref q)]) := by
      funext z
      by_cases z1 : z = dx
      · rw [z1, upd_same, upd_same]
      · rw [upd_ne z1, upd_ne z1]
        by_cases z2 : z = a
        · rw [z2, del_same, upd_ne qa.symm, ha]
        · rw [del_ne z2, upd_ne z2, upd_ne z1]
          by_cases z3 : z = q
          · rw [z3, upd_same, upd_same]
          · rw [upd_ne z3, upd_ne z3, upd_ne z2]
    rw [eH]
    have en : Gro G1.G H1 G1.G (upd H1 q (.lst xs)) := Gro.own hq1
    have S2 := S1.pure en (same_own S1.w.s hq1)
    have hd2 : (upd H1 q (.lst xs)) dx = none := by rw [upd_ne dq]; exact hd1
    have en2 : Gro G1.G (upd H1 q (.lst xs)) G1.G (upd (upd H1 q (.lst xs)) dx (.xd [("bars", .ref q)])) := Gro.own hd2
    have S3 := S2.pure en2 (same_own S2.w.s hd2)
    have mq : G1.M q = none := S1.w.m_none hq1
    have hqq : (upd (upd H1 q (.lst xs)) dx (.xd [("bars", .ref q)])) q = some (.lst xs) := by rw [upd_ne dq.symm]; exact upd_same
    have S4 := S3.newCell (ob := .lst ds) (S1.x.none_of hq1) (S1.w.s.free hq1) mq (S1.w.off hq1) hqq ⟨xs, hqq, rr⟩ fun j es z hσ => S1.no_own hq1 j es z hσ
    refine L.ex (x, some (cellD q)) _ _ _ _ σ P.E S4 ⟨rfl, dx, .ref q, rfl, upd_same, .of_cel⟩ (hR q mq)
theorem names_bar {n : Str} (x : BarAt X.prog X.w X.K X.mg X.base n) (hg : Gl X n := by rfl) (hdb : (n == ("__debug__" : Str)) = false := by decide) : Names X n (.ref (He.ga X.K n)) := ⟨hg, hdb, .inl x.g⟩
/-! ### except C as e: .. y = e.bars -/
def putAll : List (Nat × PyData) → List En → List En
  | [], E => E
  | (j, d) :: r, E => putAll r (E.set j (.dat d))
def dTryAs (cs : List Str) (y : Str) (i : Nat) (js : List (Nat × PyData)) (k : Nat) (body : DS) : DS := fun R E => body { R with ex := fun x E' M => x.1 ∈ cs ∧ (exB x.1 y = true → i < E'.length ∧ ∃ d, x.2 = some d ∧ R.nx (((putAll js (E'.set i .un)).set k (.dat d)).set i .un) M) ∧ (exB x.1 y = false → R.ex x E' M) } E
/-- a const, as it stands in a suite -/
def Cn (v : V) (d : PyData) : Prop := ∀ (K : PySem.W.Frag) (G : Hp), Rp K G v d
theorem cn_bl (b : Bool) : Cn (.bl b) (.bool b) := fun _ _ => .bl b
theorem cn_str (x : Str) : Cn (.str x) (.str x) := fun _ _ => .str x
theorem s_tryAs0 {cs : List Str} {x n : Str} {i k : Nat} {body : List Stmt} {b₀ : Stmt} {np pos' : Pos} {db : DS} (T : BarAt X.prog X.w X.K X.mg X.base x) (hst : X.stack = X.env :: X.outer) (hf : X.env.frame = some X.env.locals) (hN : X.N.Nodup) (hi : X.N[i]? = some n) (hln : X.env.kindOf n = some .local) (tk : Takes X W) (hx : ExK X.K cs [x])
    (hb : ∀ (W' : WX) (pn : List (Addr × Obj)) (xe : Value → Shared → Prop), Takes (X.tr pn xe) W' → PassesOwn (model X.prog X.w) X.A X.env xe → QSs (X.tr pn xe) W' body db)
    (hsu : ∀ (a : Addr) (oe : Obj) (cls : Value) (d : Option Addr) (pn : List (Addr × Obj)), Zc cls d oe → (∃ vs, oe.data = .fields vs) → PS (X.suite a ((a, oe) :: pn)) b₀ (tAsg (tXf a cls d (He.ga X.K x) "bars" (tVar i)) (gName k)))
    (hw : decide (x = ("WaxError" : Str)) = false := by decide) (hg : Gl X x := by rfl) (hdb : (x == ("__debug__" : Str)) = false := by decide) :
    QS X W (.Try body [.ExceptHandler (some (.Name x np)) (some n) [b₀] pos'] [] [] pos) (dTryAs cs x i [] k db) :=
  ps_imp (ps_try_as (tb := fun W2 => liftS X.K W2 db) (ts := fun a cls d => tAsg (tXf a cls d (He.ga X.K x) "bars" (tVar i)) (gName k)) hst hf hN hi hln ⟨hg, hdb, .inl T.g⟩ tk hb fun a oe cls d pn hz hv => pss_one (hsu a oe cls d pn hz hv)) fun D σ H ⟨P, R, S, h, L⟩ => by
    refine ⟨P, _, S, h, ⟨L.nx, L.rt, L.ro, L.bk, L.ct, fun z cls dd G H σ E s er ⟨hm, hy, hn⟩ => ?_⟩⟩
    obtain ⟨ec, e2⟩ := id er
    refine ⟨exB z.1 x, by rw [ec]; exact hx z.1 hm x (by simp), fun hb1 a ha => ?_, fun hb1 => L.ex z cls dd G H σ E s er (hn hb1)⟩
    obtain ⟨il, d, ed, hR⟩ := hy hb1
    rw [ed] at e2
    obtain ⟨ad, v, edd, hxd, rv⟩ := e2
    have zx : z.1 = x := by
      unfold exB at hb1
      rw [hw, Bool.or_false] at hb1
      exact of_decide_eq_true hb1
    have hl : i < σ.length := by rw [s.len]; exact il
    refine ⟨.ref a, by rw [List.getElem?_set_self hl], rfl, by rw [ec, zx], ad, [("bars", v)], v, edd, hxd, by simp, ?_⟩
    have s1 : SR X.K P.bx P.G0 P.H0 G H (σ.set i (some (.ref a))) (E.set i .un) := s.setUn
    have s2 := (s1.setDat (i := k) rv).wipe (i := i)
    exact L.nx G H _ _ s2 hR
theorem s_tryAs1 {cs : List Str} {x n : Str} {i j k : Nat} {body : List Stmt} {b₀ b₁ : Stmt} {np pos' : Pos} {db : DS} {cv : V} {cd : PyData} (T : BarAt X.prog X.w X.K X.mg X.base x) (hst : X.stack = X.env :: X.outer) (hf : X.env.frame = some X.env.locals) (hN : X.N.Nodup) (hi : X.N[i]? = some n) (hln : X.env.kindOf n = some .local) (tk : Takes X W) (hx : ExK X.K cs [x])
    (hb : ∀ (W' : WX) (pn : List (Addr × Obj)) (xe : Value → Shared → Prop), Takes (X.tr pn xe) W' → PassesOwn (model X.prog X.w) X.A X.env xe → QSs (X.tr pn xe) W' body db)
    (cn : Cn cv cd) (hs0 : ∀ (a : Addr) (pn : List (Addr × Obj)), PS (X.suite a pn) b₀ (tAsg (tC cv) (gName j)))
    (hsu : ∀ (a : Addr) (oe : Obj) (cls : Value) (d : Option Addr) (pn : List (Addr × Obj)), Zc cls d oe → (∃ vs, oe.data = .fields vs) → PS (X.suite a ((a, oe) :: pn)) b₁ (tAsg (tXf a cls d (He.ga X.K x) "bars" (tVar i)) (gName k)))
    (ji : j ≠ i := by decide) (hw : decide (x = ("WaxError" : Str)) = false := by decide) (hg : Gl X x := by rfl) (hdb : (x == ("__debug__" : Str)) = false := by decide) :
    QS X W (.Try body [.ExceptHandler (some (.Name x np)) (some n) [b₀, b₁] pos'] [] [] pos) (dTryAs cs x i [(j, cd)] k db) :=
  ps_imp (ps_try_as (tb := fun W2 => liftS X.K W2 db) (ts := fun a cls d => tSeq (tAsg (tC cv) (gName j)) (tAsg (tXf a cls d (He.ga X.K x) "bars" (tVar i)) (gName k))) hst hf hN hi hln ⟨hg, hdb, .inl T.g⟩ tk hb fun a oe cls d pn hz hv => pss_cons (hs0 a _) (pss_one (hsu a oe cls d pn hz hv))) fun D σ H ⟨P, R, S, h, L⟩ => by
    refine ⟨P, _, S, h, ⟨L.nx, L.rt, L.ro, L.bk, L.ct, fun z cls dd G H σ E s er ⟨hm, hy, hn⟩ => ?_⟩⟩
    obtain ⟨ec, e2⟩ := id er
    refine ⟨exB z.1 x, by rw [ec]; exact hx z.1 hm x (by simp), fun hb1 a ha => ?_, fun hb1 => L.ex z cls dd G H σ E s er (hn hb1)⟩
    obtain ⟨il, d, ed, hR⟩ := hy hb1
    rw [ed] at e2
    obtain ⟨ad, v, edd, hxd, rv⟩ := e2
    have zx : z.1 = x := by
      unfold exB at hb1
      rw [hw, Bool.or_false] at hb1
      exact of_decide_eq_true hb1
    have hl : i < σ.length := by rw [s.len]; exact il
    refine ⟨.ref a, by rw [List.getElem?_set_ne ji, List.getElem?_set_self hl], rfl, by rw [ec, zx], ad, [("bars", v)], v, edd, hxd, by simp, ?_⟩
    have s1 : SR X.K P.bx P.G0 P.H0 G H (σ.set i (some (.ref a))) (E.set i .un) := s.setUn
    have s2 := ((s1.setDat (i := j) (cn X.K G)).setDat (i := k) rv).wipe (i := i)
    exact L.nx G H _ _ s2 hR
end
section
variable {D : DEnds} {E : List En} {de : DE} {db : DS} {cs : List Str} {x : Str} {i k : Nat} {js : List (Nat × PyData)}
def barL (d : PyData) (P : List PyData → Prop) : Prop := ∃ ds, d = .list ds ∧ P ds
@[simp] theorem barL_s {ds : List PyData} {P : List PyData → Prop} : barL (.list ds) P = P ds := propext ⟨fun ⟨_, e, h⟩ => by cases e; exact h, fun h => ⟨ds, rfl, h⟩⟩
@[simp] theorem dRaiseB_s : dRaiseB x de D E = de E (fun d M => barL d fun ds => ∀ q, M q = none → D.ex (x, some (cellD q)) E (M.set q (.lst ds))) (fun y => D.ex y E) := rfl
@[simp] theorem dTryAs_s : dTryAs cs x i js k db D E = db { D with ex := fun z E' M => z.1 ∈ cs ∧ (exB z.1 x = true → i < E'.length ∧ ∃ d, z.2 = some d ∧ D.nx (((putAll js (E'.set i .un)).set k (.dat d)).set i .un) M) ∧ (exB z.1 x = false → D.ex z E' M) } E := rfl
@[simp] theorem putAll_n : putAll [] E = E := rfl
@[simp] theorem putAll_c {j : Nat} {d : PyData} : putAll ((j, d) :: js) E = putAll js (E.set j (.dat d)) := rfl
end
end Wx

namespace Wx
open PySem PySem.Spec PyProof.Rows L2
/-! ### errors as values -/
/-- an error as data; one that holds its bars -/
def exnD (C : Str) : PyData := .dict [(.bool false, .str C)]
def exbD (C : Str) (d : PyData) : PyData := .dict [(.bool false, .str C), (.bool true, d)]
theorem exn_inv {K : PySem.W.Frag} {G : Hp} {v : V} {C : Str} (h : Rp K G v (exnD C)) : ∃ a, v = .ref a ∧ G a = some (exo a (He.ga K C) none) := by
  generalize e : exnD C = d at h
  cases h with
  | cel b => exact (cell_exn (show cellD b = .dict ((.bool false, .str C) :: []) from e.symm)).elim
  | @dct a o ks kvs h1 h2 => exact (dct_exn (show dctD kvs = .dict ((.bool false, .str C) :: []) from e.symm)).elim
  | @ins a dx C' vs fs h1 h2 => exact (ins_exn (show insD C' fs = .dict ((.bool false, .str C) :: []) from e.symm)).elim
  | exn h1 => unfold exnD at e; cases e; exact ⟨_, rfl, h1⟩
  | exb h1 h2 h3 => unfold exnD at e; cases e
  | _ => cases e
theorem exb_inv {K : PySem.W.Frag} {G : Hp} {v : V} {C : Str} {d : PyData} (h : Rp K G v (exbD C d)) : ∃ a dx u, v = .ref a ∧ G a = some (exo a (He.ga K C) (some dx)) ∧ G dx = some (exd dx [("bars", u)]) ∧ Rp K G u d := by
  generalize e : exbD C d = d' at h
  cases h with
  | cel b => exact (cell_exn (show cellD b = .dict ((.bool false, .str C) :: _) from e.symm)).elim
  | @dct a o ks kvs h1 h2 => exact (dct_exn (show dctD kvs = .dict ((.bool false, .str C) :: _) from e.symm)).elim
  | @ins a dx C' vs fs h1 h2 => exact (ins_exn (show insD C' fs = .dict ((.bool false, .str C) :: _) from e.symm)).elim
  | exn h1 => unfold exbD at e; cases e
  | exb h1 h2 h3 => unfold exbD at e; cases e; exact ⟨_, _, _, rfl, h1, h2, h3⟩
  | _ => cases e
/-! what the written part says of the classes -/
structure ErrC (K : PySem.W.Frag) (D : Addr) : Prop where
  cl : (PySem.W.clsIn K D).isSome = true
  ga : PySem.W.findIn K (.ref D) "__getattribute__" = some (some (.builtin "BaseException.__getattribute__"))
  gt : PySem.W.findIn K (.ref D) "__getattr__" = some none
  sb : PySem.W.subIn K (.ref D) (.type "BaseException") = some true
  ca : PySem.W.findIn K (.ref D) "__class__" = some (some (.builtin "object.__class__"))
  mo : PySem.W.mroIn K D (.type "object") = some true
structure IsaK (K : PySem.W.Frag) : Prop where
  sp : PySem.W.specialIn K (.builtin "object.__class__") "__get__" = some (some (.builtin "getset_descriptor.__get__"))
  tk : PySem.W.takesIn K (.builtin "object.__class__") = some true
  c : ∀ C ∈ errL, ErrC K (He.ga K C)
  v : ∀ C ∈ errL, PySem.W.kitOne K (.ref (He.ga K C)) (.type "ValueError") = some true
  w : ∀ C ∈ errL, PySem.W.kitOne K (.ref (He.ga K C)) (.ref (He.ga K "WaxError")) = some true
  e : ∀ C ∈ errL, ∀ y ∈ errL, PySem.W.kitOne K (.ref (He.ga K C)) (.ref (He.ga K y)) = some (decide (C = y))
theorem errB_ok {K : PySem.W.Frag} {D : Addr} (h : errB K D = true) : ErrC K D := by
  unfold errB at h
  rw [Bool.and_eq_true, Bool.and_eq_true, Bool.and_eq_true, Bool.and_eq_true, Bool.and_eq_true] at h
  obtain ⟨h1, h2, h3, h4, h5, h6⟩ := h
  exact ⟨h1, of_decide_eq_true h2, of_decide_eq_true h3, of_decide_eq_true h4, of_decide_eq_true h5, of_decide_eq_true h6⟩
theorem isaB_ok {K : PySem.W.Frag} (h : isaB K = true) : IsaK K := by
  unfold isaB at h
  rw [Bool.and_eq_true, Bool.and_eq_true] at h
  obtain ⟨⟨h1, h2⟩, h3⟩ := h
  have q : ∀ C ∈ errL, errB K (He.ga K C) = true ∧ PySem.W.kitOne K (.ref (He.ga K C)) (.type "ValueError") = some true ∧ PySem.W.kitOne K (.ref (He.ga K C)) (.ref (He.ga K "WaxError")) = some true ∧ ∀ y ∈ errL, PySem.W.kitOne K (.ref (He.ga K C)) (.ref (He.ga K y)) = some (decide (C = y)) := fun C hC => by
    have z := List.all_eq_true.mp h3 C hC
    rw [Bool.and_eq_true, Bool.and_eq_true, Bool.and_eq_true] at z
    exact ⟨z.1, of_decide_eq_true z.2.1, of_decide_eq_true z.2.2.1, fun y hy => of_decide_eq_true (List.all_eq_true.mp z.2.2.2 y hy)⟩
  exact ⟨of_decide_eq_true h1, of_decide_eq_true h2, fun C hC => errB_ok (q C hC).1, fun C hC => (q C hC).2.1, fun C hC => (q C hC).2.2.1, fun C hC => (q C hC).2.2.2⟩
/-! ### isinstance(e, C) -/
def rIsa (K : PySem.W.Frag) : List V → Hp → VK → Prop := fun xs H Q => ∃ (a D : Addr) (d : Option Addr) (c : V) (cv : Value) (b : Bool), xs = [.ref a, c] ∧ H a = some (exo a D d) ∧ (∀ dx, d = some dx → ∃ fs, H dx = some (exd dx fs)) ∧ ErrC K D ∧ (∀ u, RelV c u → u = cv) ∧ PySem.W.kitOne K (.ref D) cv = some b ∧ Q (.bl b) H
theorem call_isa {X : Cx} (T : IsaK X.K) : CallR X (.builtin "isinstance") (rIsa X.K) := by
  intro pins s σ H xs us Q I r h
  obtain ⟨a, D, d, c, cv, b, rfl, ha, hd, ec, hcv, hk, q⟩ := h
  obtain ⟨u1, u2, rfl, r1, r2⟩ := vals2 r
  obtain rfl : u1 = Value.ref a := r1
  obtain rfl := hcv _ r2
  obtain ⟨t1, ho⟩ := exo_at I.hok ha
  obtain ⟨od, J⟩ : ∃ od, PySem.W.InstAt s.heap a ({ cls := .ref D, dict := d, data := .fields #[.ref t1, .none, .none, .none, .bool false, .none] } : Obj) D od := by
    cases d with
    | none => exact ⟨none, ho, rfl, rfl, trivial⟩
    | some dx =>
      obtain ⟨fs, hx⟩ := hd dx rfl
      obtain ⟨mA, ⟨o, es, ep, e1, _⟩, _⟩ := exd_at I.hok hx
      exact ⟨some o, ho, rfl, rfl, e1⟩
  exact PySem.W.kia_one (PySem.W.kitx_exc ec.cl ec.ga ec.gt ec.sb ec.ca T.sp T.tk ec.mo) I.kIn J hk (fun z => nomatch z) fun tk => ⟨.bl b, H, I.tok tk, rfl, q⟩
/-- whether an error of the class C is one of y -/
def isaC (C y : Str) : Bool := decide (C = y) || (decide (y = "WaxError") || decide (y = "ValueError"))
/-- a class as it is named -/
structure ClsN (K : PySem.W.Frag) (y : Str) (c : V) (cv : Value) : Prop where
  r : ∀ u, RelV c u → u = cv
  k : ∀ C ∈ errL, PySem.W.kitOne K (.ref (He.ga K C)) cv = some (isaC C y)
theorem errL_ne : ∀ C ∈ errL, C ≠ ("WaxError" : Str) ∧ C ≠ ("ValueError" : Str) := by decide +kernel
theorem cls_own {K : PySem.W.Frag} (T : IsaK K) {y : Str} (hy : y ∈ errL) : ClsN K y (.ref (He.ga K y)) (.ref (He.ga K y)) := ⟨fun u r => r, fun C hC => by
  obtain ⟨n1, n2⟩ := errL_ne y hy
  rw [T.e C hC y hy, isaC, decide_eq_false n1, decide_eq_false n2, Bool.or_false, Bool.or_false]⟩
theorem cls_wax {K : PySem.W.Frag} (T : IsaK K) : ClsN K "WaxError" (.ref (He.ga K "WaxError")) (.ref (He.ga K "WaxError")) := ⟨fun u r => r, fun C hC => by
  rw [T.w C hC, isaC]
  simp⟩
theorem cls_val {K : PySem.W.Frag} (T : IsaK K) : ClsN K "ValueError" (.ty "ValueError") (.type "ValueError") := ⟨fun u r => r, fun C hC => by
  rw [T.v C hC, isaC]
  simp⟩
def excD (d : PyData) (R : Str → Prop) : Prop := ∃ C ∈ errL, (d = exnD C ∨ ∃ l, d = exbD C l) ∧ R C
def dIsa (y : Str) (de : DE) : DE := fun E R Xn => de E (fun d M => excD d fun C => R (.bool (isaC C y)) M) Xn
section
variable {X : Cx} {W : WX} {pos p p2 : Pos} {a c : Expr} {da : DE} {y : Str} {cv : V} {cu : Value}
theorem q_isa (T : IsaK X.K) (fr : Fr X.mg) (N : ClsN X.K y cv cu) (hc : PE X c (tC cv)) (ha : QE X W a da) (hg : Gl X "isinstance" := by rfl) (he : starEach [a, c] X.env = (false, eval a X.env) :: starEach [c] X.env := by rfl) (he2 : starEach [c] X.env = (false, eval c X.env) :: starEach [] X.env := by rfl)
    (hpl : (backTo pos (starEach [c] X.env)).any (·.1) = false := by rfl) : QE X W (.Call (.Name "isinstance" p) [a, c] [] pos) (dIsa y da) :=
  pe_imp (pe_callB (id := "isinstance") (call_isa T) hg fr.isi (by decide +kernel) (pa_cons ha (pa_cons hc pa_nil he2) he) (by decide) (by decide) he hpl) fun σ H Q ⟨P, R, Xn, S, h, k, kx⟩ =>
    ⟨P, _, Xn, S, h, fun v G1 H1 d e1 S1 r1 ⟨C, hC, hd, hR⟩ => by
      rcases hd with rfl | ⟨l, rfl⟩
      · obtain ⟨b, rfl, hb⟩ := exn_inv r1
        exact ⟨b, _, none, cv, cu, isaC C y, rfl, S1.w.s _ _ hb, (fun _ f => nomatch f), T.c C hC, N.r, N.k C hC, k _ G1 H1 _ e1 S1 (.bl _) hR⟩
      · obtain ⟨b, dx, u, rfl, hb, hx, _⟩ := exb_inv r1
        exact ⟨b, _, some dx, cv, cu, isaC C y, rfl, S1.w.s _ _ hb, (fun z f => by cases f; exact ⟨_, S1.w.s _ _ hx⟩), T.c C hC, N.r, N.k C hC, k _ G1 H1 _ e1 S1 (.bl _) hR⟩, kx⟩
end
/-! ### C("a") -/
theorem un_laidN {F ex : List Addr} {H : Hp} {h g : Heap} {a : Addr} {o : HO} (kp : ∀ b u, h.get? b = some u → g.get? b = some u) (hn : h.get? a = none) (ha : H a = none) : Un F ex H (upd H a o) h g where
  keep := fun b u q _ _ _ => kp b u q
  slot := fun b u q _ _ _ => ⟨u.slots, kp b u q⟩
  free := fun b u q n _ => by rw [upd_ne (fun z => by rw [z, hn] at q; cases q)]; exact n
  there := fun b u q _ => ⟨u, kp b u q⟩
  tups := fun b xs q => by rw [upd_ne (ne_of_none q ha)]; exact q
  frzs := fun b u xs q => by rw [upd_ne (ne_of_none q ha)]; exact q
  tbls := fun b ps q => ⟨#[], by rw [upd_ne (ne_of_none q ha), q]; simp⟩
theorem hok_laidN {P : Program} {w : World} {H : Hp} {h g : Heap} {a : Addr} {o : HO} (x : HOk P w H h) (kp : ∀ b u, h.get? b = some u → g.get? b = some u) (ha : H a = none) (new : ObjOk P w (upd H a o) g a o) : HOk P w (upd H a o) g := fun b u e => by
  by_cases hb : b = a
  · subst hb
    rw [upd_same] at e
    cases e
    exact new
  · rw [upd_ne hb] at e
    refine (x b u e).stay (fun c v _ q => kp c v q) (fun c q => ?_) fun c xs q => ?_
    · rw [upd_ne (ne_of_none q ha)]; exact q
    · rw [upd_ne (ne_of_none q ha)]; exact q
def tExn (D : Addr) : TE := fun _ H Q => ∀ a, H a = none → Q (.ref a) (upd H a (exo a D none))
theorem pe_exn {X : Cx} {x m : Str} {j : Nat} {p p2 pos : Pos} (e : ErK X.K X.mg x) (hg : Gl X x) (hdb : (x == ("__debug__" : Str)) = false := by decide) : PE X (.Call (.Name x p) [.Constant (.str m) j p2] [] pos) (tExn (He.ga X.K x)) := by
  refine ⟨fun pins s σ H Q I h => ?_⟩
  refine wpAny_Call_Name_kw (ld_glob I hg e.g ?_ hdb)
  have arg : PA X [.Constant (.str m) j p2] (tCons (tC (.str m)) tNil) := pa_cons pe_str pa_nil
  refine PySem.W.callWith_K (h₀ := X.base) I.ok.mod.kin e.k (thn (arg.run pos pins s σ H (fun vs H1 => vs = [V.str m] ∧ H = H1) I ⟨rfl, rfl⟩) fun us s1 got => ?_)
  obtain ⟨vs, H1, I1, rv, evs, eh⟩ := got
  subst evs
  rw [← eh] at I1
  refine ⟨I1.kIn, ?_⟩
  cases rv with
  | cons ru rest =>
    rename_i u more
    cases rest
    show wpAny _ _ (call (.ref (He.ga X.K x)) [u]) _ _ _
    obtain ⟨bm, ns, cn, qu, bases, hd, slots, sub1, abs1, col1, dd1, j0, j1, j2, j3, j5, mp, c1, c2, c3, tail⟩ := exc_obj I1.kIn e.e
    refine wpAny_call_exc_subT PySem.F.excBase_ValueError tail c1 c2 c3 (fun g b made => ?_) (by show 1 ≤ sizeLine; rw [sizeLine_eq]; omega)
    obtain ⟨t, there, _, _⟩ := made.there
    have hb : H b = none := I1.hok.gone made.new
    have ok : HOk X.prog X.w (upd H b (exo b (He.ga X.K x) none)) g := hok_laidN I1.hok made.keeps hb (exo_ok there)
    exact ⟨.ref b, _, I1.un (t' := s1.toks) (un_laidN made.keeps made.new hb) ok, rfl, h b hb⟩
def dExn (x : Str) : DE := fun _ R _ M => R (exnD x) M
section
variable {X : Cx} {W : WX} {p p2 pos : Pos} {x m : Str} {j : Nat}
theorem q_exn (e : ErK X.K X.mg x) (hg : Gl X x := by rfl) (hdb : (x == ("__debug__" : Str)) = false := by decide) : QE X W (.Call (.Name x p) [.Constant (.str m) j p2] [] pos) (dExn x) :=
  pe_imp (pe_exn e hg hdb) fun σ H Q ⟨P, R, Xn, S, h, k, kx⟩ a ha => by
    have en : Gro P.G H P.G (upd H a (exo a (He.ga X.K x) none)) := Gro.own ha
    have e1 : Ext P.bx P.G H P.G (upd H a (exo a (He.ga X.K x) none)) := Ext.refl.trans en.any
    have S1 := S.pure en (same_own S.w.s ha)
    obtain ⟨e2, S2⟩ := S1.freeze e1 S ha (S.w.s.free ha) (S.w.m_none ha) upd_same
    exact k _ _ _ _ e2 S2 (.exn upd_same) h
end
/-! ### C(e), C with its own __init__, as a value -/
def tMkE (D : Addr) (sp : Sp) (ta : TA) : TE := fun σ H Q => ta σ H fun vs H1 => vs.length ≤ 1000 ∧ ∀ a, H1 a = none → sp (.ref a :: vs) (upd H1 a (exo a D none)) (fun v H2 => v = .non ∧ Q (.ref a) H2) fun _ _ _ => False
theorem pe_mkE {X : Cx} {x : Str} {e₀ : Expr} {p pos : Pos} {ta : TA} {D fi : Addr} {k : Nat} {fd : FuncData} {ns : List Str} {sp : Sp} (T : OexC X.K D) (ini : PySem.W.findIn X.K (.ref D) "__init__" = some (some (.ref fi))) (ty : PySem.W.typeIn X.K (.ref fi) = some (.type "function"))
    (F : FnOk X.prog X.w X.K X.mg X.base CX0 k fi fd ns sp) (room : Room (k + 1) X.A) (bd : Binds X.K fd ns []) (hg : Gl X x) (hm : X.mg x = some (.ref D)) (arg : PA X [e₀] ta) (hdb : (x == ("__debug__" : Str)) = false := by decide)
    (hs : starEach [e₀] X.env = (false, eval e₀ X.env) :: starEach [] X.env := by rfl) (hp0 : (backTo pos (starEach [] X.env)).any (·.1) = false := by rfl) : PE X (.Call (.Name x p) [e₀] [] pos) (tMkE D sp ta) := by
  refine ⟨fun pins s σ H Q I h => ?_⟩
  obtain ⟨cn, qu, ns0, bases, bm, slots, sub1, abs1, col1, dd1, j0, j1, j2, j3, j5, look, refs⟩ := T.cls
  refine wpAny_Call_Name_kw (ld_glob I hg hm ?_ hdb)
  refine PySem.W.callWith_K (h₀ := X.base) I.ok.mod.kin T.kC (thn (arg.run pos pins s σ H _ I h) fun us s1 ⟨vs, H1, I1, rv, small, goal1⟩ => ⟨I1.kIn, ?_⟩) hs hp0
  show wpAny _ _ (call (.ref D) us) _ _ _
  obtain ⟨h0, ge, dw, tk, os⟩ := s1
  have above : h0.objs.size ≤ h0.objs.size + 1 := Nat.le_succ _
  have noA : H1 (h0.objs.size + 1) = none := I1.hok.fresh above
  have start := goal1 (h0.objs.size + 1) noA
  have kp : ∀ b o, h0.get? b = some o → ((h0.push (PySem.W.kdv_tup us)).push (PySem.HandSPX.excO D h0.objs.size)).get? b = some o := fun b o z => Heap.get?_push_of_some _ (Heap.get?_push_of_some _ z)
  have here : ((h0.push (PySem.W.kdv_tup us)).push (PySem.HandSPX.excO D h0.objs.size)).get? (h0.objs.size + 1) = some (PySem.HandSPX.excO D h0.objs.size) := by heap_get
  have I2 := I1.laid (t' := tk) (a := h0.objs.size + 1) (o := exo (h0.objs.size + 1) D none) (h' := (h0.push (PySem.W.kdv_tup us)).push (PySem.HandSPX.excO D h0.objs.size)) kp above (exo_ok here)
  have rv2 : Vals (V.ref (h0.objs.size + 1) :: vs) (Value.ref (h0.objs.size + 1) :: us) := .cons rfl rv
  have many : (Value.ref (h0.objs.size + 1) :: us).length = ns.length := by
    have z := rv2.length
    rw [F.len _ _ _ _ start] at z
    exact z.symm
  have fits : us.length ≤ sizeLine := by
    rw [← Paired.length rv, sizeLine_eq]
    omega
  have bnd := bd _ (Value.ref (h0.objs.size + 1) :: us) I2.kIn (by rw [List.append_nil]; exact many)
  rw [List.append_nil] at bnd
  refine wpAny_call (PySem.HandSPX.call_own PySem.F.excBase_ValueError (fun Y => PySem.HandSPX.refsVE_contains Y bm refs) (I1.kIn _ _ look) (PySem.W.looks_findIn I1.kIn ini) (fun self => PySem.W.bind_fn I1.kIn self ty) fits
    (codeAny_mono (F.run _ X.stack _ _ ⟨Value.ref (h0.objs.size + 1) :: us, []⟩ (Value.ref (h0.objs.size + 1) :: us) _ _ (fun _ _ _ => False) (room.make D us []) (I2.env0.make D us []) bnd rv2 start) fun r s' out => ?_))
  cases r with
  | error er =>
    have no : ∀ (pins : List (Addr × Obj)) (σ : L2.St) (H : Hp) (s : Shared) (e : Value) (s' : Shared), Inv X pins σ H s → CX0 X.stack H s (fun _ _ _ => False) e s' → X.xe e s' := fun _ _ _ _ _ _ _ q => False.elim q
    exact no pins σ _ _ er s' I2 out
  | ok fl =>
    cases fl with
    | ret u =>
      obtain ⟨v, H2, os2, bare2, un2, hok2, ru, ev, goal2⟩ := out
      subst ev
      obtain ⟨h2, g2, d2, t2, os'⟩ := s'
      exact ⟨ru, .ref (h0.objs.size + 1), H2, I2.call' (ch := []) os2 un2 hok2 bare2 (fun b z => absurd z (by simp)), rfl, goal2⟩
    | next => exact False.elim out
    | brk => exact False.elim out
    | cont => exact False.elim out
/-- Barred(e): what it is given is copied -/
def dExb (x : Str) (de : DE) : DE := fun E R Xn => de E (fun d M => ∃ ds, resL M d = .list ds ∧ R (exbD x (.list ds)) M) Xn
/-- e.bars -/
def dBars (de : DE) : DE := fun E R Xn => de E (fun d M => ∃ C l, d = exbD C l ∧ C = "Barred" ∧ R l M) Xn
section
variable {X : Cx} {W : WX} {e : Expr} {de : DE} {p pos : Pos} {x : Str}
theorem q_exb {k : Nat} (T : BarAt X.prog X.w X.K X.mg X.base x) (hr : Room k X.A) (he : QE X W e de) (hk : 2 ≤ k := by decide) (hg : Gl X x := by rfl) (hdb : (x == ("__debug__" : Str)) = false := by decide)
    (hs : starEach [e] X.env = (false, eval e X.env) :: starEach [] X.env := by rfl) : QE X W (.Call (.Name x p) [e] [] pos) (dExb x de) := by
  obtain ⟨fd, F, B⟩ := T.f
  refine pe_imp (pe_mkE T.b.o T.b.i T.b.t F (hr.mono hk) B hg T.g (pa_cons he pa_nil hs) hdb hs) fun σ H Q ⟨P, R, Xn, S, h, k, kx⟩ => ?_
  refine ⟨P, _, Xn, S, h, fun v G1 H1 d e1 S1 r1 ⟨ds, ed, hR⟩ => ?_, kx⟩
  obtain ⟨b, xs, ev, hb, rr⟩ : ∃ (b : Addr) (xs : List V), v = .ref b ∧ H1 b = some (.lst xs) ∧ RpAll X.K G1.G xs ds := by
    unfold resL at ed
    split at ed
    · rename_i ds' hc
      obtain ⟨b, ex, hm⟩ := celM_some hc
      subst ex
      have ev := r1.cell_inv
      subst ev
      obtain ⟨⟨xs, h1, h2⟩, _, _⟩ := S1.w.c b _ hm
      cases ed
      exact ⟨b, xs, rfl, h1, h2⟩
    · subst ed
      cases r1 with
      | lst hb rr => exact ⟨_, _, rfl, S1.w.s _ _ hb, rr⟩
  subst ev
  refine ⟨by show 1 ≤ 1000; decide, fun a ha => ?_⟩
  have ba : b ≠ a := fun z => by rw [z, ha] at hb; cases hb
  refine ⟨a, _, b, xs, rfl, T.b.o, T.b.no, upd_same, SqL.of (by rw [upd_ne ba]; exact hb), fun q dx hq hdx da => ⟨rfl, ?_⟩⟩
  have qa : q ≠ a := fun z => by rw [z, upd_same] at hq; cases hq
  have hq1 : H1 q = none := by rw [upd_ne qa] at hq; exact hq
  have dq : dx ≠ q := fun z => by rw [z, upd_same] at hdx; cases hdx
  have hd1 : H1 dx = none := by rw [upd_ne dq, upd_ne da] at hdx; exact hdx
  have eH : upd (upd (upd (upd H1 a (exo a (He.ga X.K x) none)) q (.lst xs)) dx (exd dx [("bars", .ref q)])) a (exo a (He.ga X.K x) (some dx)) = upd (upd (upd H1 q (.lst xs)) dx (exd dx [("bars", .ref q)])) a (exo a (He.ga X.K x) (some dx)) := by
    funext z
    by_cases z1 : z = a
    · rw [z1, upd_same, upd_same]
    · rw [upd_ne z1, upd_ne z1]
      by_cases z2 : z = dx
      · rw [z2, upd_same, upd_same]
      · rw [upd_ne z2, upd_ne z2]
        by_cases z3 : z = q
        · rw [z3, upd_same, upd_same]
        · rw [upd_ne z3, upd_ne z3, upd_ne z1]
  rw [eH]
  -- the copy
  have en : Gro G1.G H1 G1.G (upd H1 q (.lst xs)) := Gro.own hq1
  obtain ⟨e2, S2⟩ := (S1.pure en (same_own S1.w.s hq1)).freeze (G := G1) (Ext.refl.trans en.any) S1 hq1 (S1.w.s.free hq1) (S1.w.m_none hq1) upd_same
  -- its dict
  have hd2 : (upd H1 q (.lst xs)) dx = none := by rw [upd_ne dq]; exact hd1
  have en2 : Gro (G1.up q (.lst xs)).G (upd H1 q (.lst xs)) (G1.up q (.lst xs)).G (upd (upd H1 q (.lst xs)) dx (exd dx [("bars", .ref q)])) := Gro.own hd2
  obtain ⟨e3, S3⟩ := (S2.pure en2 (same_own S2.w.s hd2)).freeze (G := G1.up q (.lst xs)) (Ext.refl.trans en2.any) S2 hd2 (S2.w.s.free hd2) (S2.w.m_none hd2) upd_same
  -- the error
  have ha3 : (upd (upd H1 q (.lst xs)) dx (exd dx [("bars", .ref q)])) a = none := by rw [upd_ne da.symm, upd_ne qa.symm]; exact ha
  have en3 : Gro ((G1.up q (.lst xs)).up dx (exd dx [("bars", .ref q)])).G _ ((G1.up q (.lst xs)).up dx (exd dx [("bars", .ref q)])).G (upd (upd (upd H1 q (.lst xs)) dx (exd dx [("bars", .ref q)])) a (exo a (He.ga X.K x) (some dx))) := Gro.own ha3
  obtain ⟨e4, S4⟩ := (S3.pure en3 (same_own S3.w.s ha3)).freeze (G := (G1.up q (.lst xs)).up dx (exd dx [("bars", .ref q)])) (Ext.refl.trans en3.any) S3 ha3 (S3.w.s.free ha3) (S3.w.m_none ha3) upd_same
  refine k _ _ _ _ (((e1.trans e2).trans e3).trans e4) S4 (Rp.exb (dx := dx) (v := .ref q) (d := .list ds) upd_same ?_ (Rp.lst (a := q) (xs := xs) ?_ ?_)) hR
  · show upd (upd (upd G1.G q (.lst xs)) dx (exd dx [("bars", .ref q)])) a _ dx = _
    rw [upd_ne da, upd_same]
  · show upd (upd (upd G1.G q (.lst xs)) dx (exd dx [("bars", .ref q)])) a _ q = _
    rw [upd_ne qa, upd_ne dq.symm, upd_same]
  · refine rr.up (fun z o hz => ?_)
    have hz1 := S1.w.s z o hz
    show upd (upd (upd G1.G q (.lst xs)) dx (exd dx [("bars", .ref q)])) a _ z = _
    rw [upd_ne (ne_of_none hz1 ha), upd_ne (ne_of_none hz1 hd1), upd_ne (ne_of_none hz1 hq1)]
    exact hz
end
/-! ### e.bars -/
def tBars (K : PySem.W.Frag) (te : TE) : TE := fun σ H Q => te σ H fun x H1 => ∃ (a D dx : Addr) (v : V), x = .ref a ∧ H1 a = some (exo a D (some dx)) ∧ H1 dx = some (exd dx [("bars", v)]) ∧ XfC K D ∧ PySem.W.findIn K (.ref D) "bars" = some none ∧ Q v H1
theorem pe_bars {X : Cx} {e : Expr} {te : TE} {pos : Pos} (he : PE X e te) (hb : attributeBase e "bars" X.env (eval e X.env) = eval e X.env := by rfl) : PE X (.Attribute e "bars" pos) (tBars X.K te) := by
  refine ⟨fun pins s σ H Q I h => ?_⟩
  refine attr_of hb (thn (he.run pins s σ H _ I h) fun u s1 got => ?_)
  obtain ⟨x, H1, I1, rx, a, D, dx, v, rfl, ha, hx, T, no, q⟩ := got
  obtain rfl : u = Value.ref a := rx
  obtain ⟨t1, ho⟩ := exo_at I1.hok ha
  obtain ⟨mA, hn, rel⟩ := exd_at I1.hok hx
  obtain ⟨od, hod, look⟩ := lookIn_ns hn
  obtain ⟨w, hw, rw'⟩ := RelO.some_of (v := v) (o := mA "bars") (rel "bars")
  have J : PySem.W.InstAt s1.heap a ({ cls := .ref D, dict := some dx, data := .fields #[.ref t1, .none, .none, .none, .bool false, .none] } : Obj) D (some od) := ⟨ho, rfl, rfl, hod⟩
  refine HandSPX.exc_get I1.kIn J T.ga T.gg T.exC (PySem.W.findObj_own T.hdC no rfl (by rw [look, hw])) (handed_of rw') ?_
  exact ⟨v, H1, I1.tok _, rw', q⟩
section
variable {X : Cx} {W : WX} {e : Expr} {de : DE} {pos : Pos}
theorem q_bars (T : BarAt X.prog X.w X.K X.mg X.base "Barred") (he : QE X W e de) (hb : attributeBase e "bars" X.env (eval e X.env) = eval e X.env := by rfl) : QE X W (.Attribute e "bars" pos) (dBars de) :=
  pe_imp (pe_bars he hb) fun σ H Q ⟨P, R, Xn, S, h, k, kx⟩ =>
    ⟨P, _, Xn, S, h, fun v G1 H1 d e1 S1 r1 ⟨C, l, ed, ec, hR⟩ => by
      subst ed ec
      obtain ⟨a, dx, u, rfl, ha, hx, ru⟩ := exb_inv r1
      exact ⟨a, _, dx, u, rfl, S1.w.s _ _ ha, S1.w.s _ _ hx, T.b.xf, T.b.no, k _ G1 H1 _ e1 S1 ru hR⟩, kx⟩
end
/-! simp forms -/
section
variable {E : List En} {M : Mu} {R : PyData → Mu → Prop} {Xn : Er → Mu → Prop} {de : DE} {x y C : Str} {l : PyData}
@[simp] theorem dExn_s : dExn x E R Xn = fun M => R (exnD x) M := rfl
@[simp] theorem dIsa_s : dIsa y de E R Xn = de E (fun d M => excD d fun C => R (.bool (isaC C y)) M) Xn := rfl
@[simp] theorem dExb_s : dExb x de E R Xn = de E (fun d M => ∃ ds, resL M d = .list ds ∧ R (exbD x (.list ds)) M) Xn := rfl
def barsD (d : PyData) (P : PyData → Prop) : Prop := ∃ C l, d = exbD C l ∧ C = "Barred" ∧ P l
@[simp] theorem dBars_s : dBars de E R Xn = de E (fun d M => barsD d fun l => R l M) Xn := rfl
end
theorem barsD_s {l : PyData} {P : PyData → Prop} (h : P l) : barsD (exbD "Barred" l) P := ⟨_, l, rfl, rfl, h⟩
theorem excD_n {C : Str} {R : Str → Prop} (hC : C ∈ errL) (h : R C) : excD (exnD C) R := ⟨C, hC, .inl rfl, h⟩
theorem excD_b {C : Str} {l : PyData} {R : Str → Prop} (hC : C ∈ errL) (h : R C) : excD (exbD C l) R := ⟨C, hC, .inr ⟨l, rfl⟩, h⟩
end Wx
namespace Wx
open PySem PySem.Spec PyProof.Rows L2
--B _law_kinds
def sp_law_kinds : DSp := fun as R _ => ∃ (C : Str) (d : PyData), as = [.dat d] ∧ C ∈ errL ∧ (d = exnD C ∨ ∃ l, d = exbD C l) ∧ R (.list (errL.map fun y => .bool (isaC C y)))
theorem len_law_kinds : ∀ as R Xn, sp_law_kinds as R Xn → as.length = 1 := fun _ _ _ ⟨_, _, e, _⟩ => by rw [e]; rfl
def d_law_kinds : DS := dSeq (dSet 1 (dFz (dLst (dCons (dIsa "NoName" (dVar 0)) (dCons (dIsa "Taken" (dVar 0)) (dCons (dIsa "BadSize" (dVar 0)) (dCons (dIsa "NoCloth" (dVar 0)) (dCons (dIsa "NoCell" (dVar 0)) (dCons (dIsa "BadWish" (dVar 0)) (dNil))))))))))
  (dSeq (dSet 2 (dFz (dLst (dCons (dIsa "Twice" (dVar 0)) (dCons (dIsa "NoDye" (dVar 0)) (dCons (dIsa "Spent" (dVar 0)) (dCons (dIsa "StillFresh" (dVar 0)) (dCons (dIsa "TooDeep" (dVar 0)) (dNil)))))))))
  (dSeq (dSet 3 (dFz (dLst (dCons (dIsa "NothingLeft" (dVar 0)) (dCons (dIsa "NoMark" (dVar 0)) (dCons (dIsa "NoDeed" (dVar 0)) (dCons (dIsa "NoHouse" (dVar 0)) (dCons (dIsa "NoChart" (dVar 0)) (dNil)))))))))
  (dRet (dOp fAdd (dOp fAdd (dOp fAdd (dVar 1) (dVar 2)) (dVar 3)) (dFz (dLst (dCons (dIsa "Barred" (dVar 0)) (dNil))))))))
theorem pure_law_kinds : PurF d_law_kinds 4 sp_law_kinds := by
  rintro _ R _ ⟨C, d, rfl, hC, hd, hR⟩
  have ex : ∀ Q : Str → Prop, Q C → excD d Q := fun Q q => ⟨C, hC, hd, q⟩
  simp [d_law_kinds, sizeL]
  repeat refine ex _ ?_
  exact hR

section
variable {P : Program} {w : World} {K : PySem.W.Frag} {mg : Str → Option Value} {base : Heap} {f : Addr} {fd : FuncData}
theorem sc18_0 : FnScope ["self", "bars"] ["self", "bars"] (defScope (inClass (topS 18) 0)) := ⟨rfl, rfl, rfl, by decide +kernel, rfl, by decide +kernel, by decide +kernel⟩
theorem ok_bar (F : FunD K "__init__" "Barred.__init__" (defArgs (inClass (topS 18) 0)) (defBody (inClass (topS 18) 0)) (defScope (inClass (topS 18) 0)) [] [] f fd) (fr : Fr mg) : FnOk P w K mg base CX0 1 f fd ["self", "bars"] (spBar K) :=
  F.ok sc18_0 (fun vs H Q E ⟨_, _, _, _, e, _⟩ => by rw [e]; rfl) fun cdv A outer s H vs Q E hr h => ⟨t_bar K, PSs.nox (pss_one (ps_ost (pv 0) (pe_callTy call_list_of rfl fr.list bv_list (pa_cons (pv 1) pa_nil)))), pure_bar h⟩
theorem sc20 : FnScope ["_law_script", "_law_seed", "_law_cell"] ["_law_script"] (defScope (topS 20)) := ⟨rfl, rfl, rfl, by decide +kernel, rfl, by decide +kernel, by decide +kernel⟩
theorem ok_box (F : FunD K "_law_box" "_law_box" (defArgs (topS 20)) (defBody (topS 20)) (defScope (topS 20)) [] [] f fd) (fr : Fr mg) : FnOk P w K mg base CX0 1 f fd ["_law_script"] (spBox K) :=
  F.ok sc20 (fun vs H Q E ⟨_, _, e, _⟩ => by rw [e]; rfl) fun cdv A outer s H vs Q E hr h => ⟨_, PSs.nox (pss_cons (ps_set (i := 1) sc20.nd rfl (Or.inl rfl) pe_int)
    (pss_cons (ps_for PassesOwn.never rfl (pi_list (pe_slice sl_list (pv 0) po_none (po_some pe_int))) (pg_name (i := 2) sc20.nd rfl (Or.inl rfl)) (pss_one (ps_set (i := 1) sc20.nd rfl (Or.inl rfl) (pe_op op_mod (pe_op op_add (pe_op op_add (pe_op op_mul (pv 1) pe_int) (pv 2)) pe_int) pe_int))))
    (pss_one (ps_ret (pe_lst (pa_cons (pe_callTy call_list_of rfl fr.list bv_list (pa_cons (pe_slice sl_list (pv 0) po_none (po_some pe_int)) pa_nil)) (pa_cons pe_int (pa_cons pe_int (pa_cons pe_int (pa_cons (pv 1) pa_nil)))))))))), pure_boxed K vs H Q E h ["_law_script", "_law_seed", "_law_cell"] rfl⟩
theorem sc21 : FnScope ["_law_number", "_law_turn", "_law_one", "_law_two"] ["_law_number", "_law_turn"] (defScope (topS 21)) := ⟨rfl, rfl, rfl, by decide +kernel, rfl, by decide +kernel, by decide +kernel⟩
theorem ok_mixed (F : FunD K "_law_mixed" "_law_mixed" (defArgs (topS 21)) (defBody (topS 21)) (defScope (topS 21)) [] [] f fd) : FnOk P w K mg base CX0 1 f fd ["_law_number", "_law_turn"] spMixed :=
  F.ok sc21 (fun vs H Q E ⟨_, _, e, _⟩ => by rw [e]; rfl) fun cdv A outer s H vs Q E hr h => ⟨t_mixed, PSs.nox (pss_cons (ps_set (i := 2) sc21.nd rfl (Or.inl rfl) (pe_op op_mod (pe_op op_add (pe_op op_add (pe_op op_mul (pv 0) pe_int) (pe_op op_mul (pv 1) pe_int)) pe_int) pe_int))
    (pss_cons (ps_set (i := 3) sc21.nd rfl (Or.inl rfl) (pe_op op_mod (pe_op op_add (pe_op op_add (pe_op op_mul (pv 2) (pe_op op_add (pe_op op_mod (pv 2) pe_int) pe_int)) (pe_op op_mul (pv 1) pe_int)) (pe_op op_mod (pv 0) pe_int)) pe_int))
    (pss_one (ps_ret (pe_op op_fdiv (pv 3) pe_int))))), pure_mixed vs H Q E h ["_law_number", "_law_turn", "_law_one", "_law_two"] rfl⟩
theorem sc22 : FnScope ["_law_box_here", "_law_many", "_law_left", "_law_cell"] ["_law_box_here", "_law_many"] (defScope (topS 22)) := ⟨rfl, rfl, rfl, by decide +kernel, rfl, by decide +kernel, by decide +kernel⟩
theorem ok_take (F : FunD K "_law_take" "_law_take" (defArgs (topS 22)) (defBody (topS 22)) (defScope (topS 22)) [] [] f fd) (fr : Fr mg) {fm : FuncData} (M : FnOk P w K mg base CX0 1 (He.ga K "_law_mixed") fm ["_law_number", "_law_turn"] spMixed) (bM : Binds K fm ["_law_number", "_law_turn"] [])
    (kM : PySem.W.keepIn K (.ref (He.ga K "_law_mixed")) = true) (gM : mg "_law_mixed" = some (.ref (He.ga K "_law_mixed"))) : FnOk P w K mg base CX0 2 f fd ["_law_box_here", "_law_many"] (spTake K) :=
  F.ok sc22 (fun vs H Q E ⟨_, _, as, _, _, _, r, ⟨_, e, _⟩, _⟩ => by rw [argsOk_len r, e]; rfl) fun cdv A outer s H vs Q E hr h => ⟨t_taken K, PSs.nox (
    pss_cons (ps_asg (pe_op op_add (px (pv 0) pe_int) pe_int) (pg_sub (pv 0) pe_int set_list))
    (pss_cons (ps_if (pt_cmpR op_gt (px (pv 0) pe_int) pe_int (nomark _)) (pss_cons (ps_set (i := 2) sc22.nd rfl (Or.inl rfl) (px (pv 0) pe_int)) (pss_cons (ps_asg (pe_op op_fdiv (pv 2) (pv 1)) (pg_sub (pv 0) pe_int set_list)) (pss_one (ps_ret (pe_op op_mod (pv 2) (pv 1)))))) pss_nil)
    (pss_cons (ps_if (pt_cmpR op_ge (px (pv 0) pe_int) (pe_callB call_len rfl fr.len bv_len (pa_cons (px (pv 0) pe_int) pa_nil)) (nomark _)) (pss_one (ps_ret (pe_op op_mod (pe_call M hr rfl gM kM bM .nil pass0 (pa_cons (px (pv 0) pe_int) (pa_cons (px (pv 0) pe_int) pa_nil))) (pv 1)))) pss_nil)
    (pss_cons (ps_set (i := 3) sc22.nd rfl (Or.inl rfl) (px (px (pv 0) pe_int) (px (pv 0) pe_int)))
    (pss_cons (ps_asg (pe_op op_add (px (pv 0) pe_int) pe_int) (pg_sub (pv 0) pe_int set_list))
    (pss_cons (ps_if (pt_cmpR op_lt (pv 3) (pe_op op_pow pe_int pe_int) (nomark _)) (pss_one (ps_ret (pe_op op_mod (pe_call M hr rfl gM kM bM .nil pass0 (pa_cons (pv 3) (pa_cons (px (pv 0) pe_int) pa_nil))) (pv 1)))) pss_nil)
    (pss_cons (ps_asg (pe_op op_fdiv (pv 3) (pv 1)) (pg_sub (pv 0) pe_int set_list)) (pss_one (ps_ret (pe_op op_mod (pv 3) (pv 1))))))))))), pure_taken vs H Q E h ["_law_box_here", "_law_many", "_law_left", "_law_cell"] rfl⟩
theorem sc23 : FnScope ["_law_e", "_law_first", "_law_second", "_law_third"] ["_law_e"] (defScope (topS 23)) := ⟨rfl, rfl, rfl, by decide +kernel, rfl, by decide +kernel, by decide +kernel⟩
theorem ok_law_kinds (F : FunD K "_law_kinds" "_law_kinds" (defArgs (topS 23)) (defBody (topS 23)) (defScope (topS 23)) [] [] f fd) (fr : Fr mg) (b_Barred : BarAt P w K mg base "Barred") (x_BadSize : ErK K mg "BadSize") (x_BadWish : ErK K mg "BadWish") (x_NoCell : ErK K mg "NoCell") (x_NoChart : ErK K mg "NoChart") (x_NoCloth : ErK K mg "NoCloth") (x_NoDeed : ErK K mg "NoDeed") (x_NoDye : ErK K mg "NoDye") (x_NoHouse : ErK K mg "NoHouse") (x_NoMark : ErK K mg "NoMark") (x_NoName : ErK K mg "NoName") (x_NothingLeft : ErK K mg "NothingLeft") (x_Spent : ErK K mg "Spent") (x_StillFresh : ErK K mg "StillFresh") (x_Taken : ErK K mg "Taken") (x_TooDeep : ErK K mg "TooDeep") (x_Twice : ErK K mg "Twice") (isa : IsaK K) : FnOk P w K mg base CX0 1 f fd ["_law_e"] (spF K sp_law_kinds) :=
  mkF F sc23 len_law_kinds (ds := d_law_kinds) (fun cdv A outer s H E hr => have hu := Room.hu hr; (ss_cons (s_set (i := 1) sc23.nd rfl (Or.inl rfl) (q_fz (f_lst (a_cons (q_isa isa fr (cls_own isa (y := "NoName") (by decide +kernel)) (pe_glob rfl x_NoName.g rfl) (q_var 0 (pv 0))) (a_cons (q_isa isa fr (cls_own isa (y := "Taken") (by decide +kernel)) (pe_glob rfl x_Taken.g rfl) (q_var 0 (pv 0))) (a_cons (q_isa isa fr (cls_own isa (y := "BadSize") (by decide +kernel)) (pe_glob rfl x_BadSize.g rfl) (q_var 0 (pv 0))) (a_cons (q_isa isa fr (cls_own isa (y := "NoCloth") (by decide +kernel)) (pe_glob rfl x_NoCloth.g rfl) (q_var 0 (pv 0))) (a_cons (q_isa isa fr (cls_own isa (y := "NoCell") (by decide +kernel)) (pe_glob rfl x_NoCell.g rfl) (q_var 0 (pv 0))) (a_cons (q_isa isa fr (cls_own isa (y := "BadWish") (by decide +kernel)) (pe_glob rfl x_BadWish.g rfl) (q_var 0 (pv 0))) a_nil)))))))))
  (ss_cons (s_set (i := 2) sc23.nd rfl (Or.inl rfl) (q_fz (f_lst (a_cons (q_isa isa fr (cls_own isa (y := "Twice") (by decide +kernel)) (pe_glob rfl x_Twice.g rfl) (q_var 0 (pv 0))) (a_cons (q_isa isa fr (cls_own isa (y := "NoDye") (by decide +kernel)) (pe_glob rfl x_NoDye.g rfl) (q_var 0 (pv 0))) (a_cons (q_isa isa fr (cls_own isa (y := "Spent") (by decide +kernel)) (pe_glob rfl x_Spent.g rfl) (q_var 0 (pv 0))) (a_cons (q_isa isa fr (cls_own isa (y := "StillFresh") (by decide +kernel)) (pe_glob rfl x_StillFresh.g rfl) (q_var 0 (pv 0))) (a_cons (q_isa isa fr (cls_own isa (y := "TooDeep") (by decide +kernel)) (pe_glob rfl x_TooDeep.g rfl) (q_var 0 (pv 0))) a_nil))))))))
  (ss_cons (s_set (i := 3) sc23.nd rfl (Or.inl rfl) (q_fz (f_lst (a_cons (q_isa isa fr (cls_own isa (y := "NothingLeft") (by decide +kernel)) (pe_glob rfl x_NothingLeft.g rfl) (q_var 0 (pv 0))) (a_cons (q_isa isa fr (cls_own isa (y := "NoMark") (by decide +kernel)) (pe_glob rfl x_NoMark.g rfl) (q_var 0 (pv 0))) (a_cons (q_isa isa fr (cls_own isa (y := "NoDeed") (by decide +kernel)) (pe_glob rfl x_NoDeed.g rfl) (q_var 0 (pv 0))) (a_cons (q_isa isa fr (cls_own isa (y := "NoHouse") (by decide +kernel)) (pe_glob rfl x_NoHouse.g rfl) (q_var 0 (pv 0))) (a_cons (q_isa isa fr (cls_own isa (y := "NoChart") (by decide +kernel)) (pe_glob rfl x_NoChart.g rfl) (q_var 0 (pv 0))) a_nil))))))))
  (ss_one (s_ret (q_add (q_add (q_add (q_var 1 (pv 1)) (q_var 2 (pv 2))) (q_var 3 (pv 3))) (q_fz (f_lst (a_cons (q_isa isa fr (cls_own isa (y := "Barred") (by decide +kernel)) (pe_glob rfl b_Barred.g rfl) (q_var 0 (pv 0))) a_nil)))))))))) pure_law_kinds
theorem sc24 : FnScope ["_law_script", "_law_box_here", "_law_rows", "_law_handed", "_law_barred", "_law_made", "_law_k", "_law_one", "_law_j"] ["_law_script"] (defScope (topS 24)) := ⟨rfl, rfl, rfl, by decide +kernel, rfl, by decide +kernel, by decide +kernel⟩
--L
def dl9 : DS := dRet (dAndV (dIsiG "list" (dBars (dVar 4))) (dOpG gEq (dBars (dVar 4)) (dVar 2)))
def dl8 : DS := dSeq (dForK (iOld (iEnumD (dVar 5))) (.tp [6, 7]) (dSeq (dIfS (dOrT (dNotT (dTruG (dIsa "WaxError" (dVar 7)))) (dNotT (dTruG (dIsa "ValueError" (dVar 7))))) (dRet (dC (.bool false))) (dNext))
  (dIfS (dTB (dOpG gNe (dCall sp_law_kinds (dCons (dVar 7) (dNil))) (dFz (dLcK (iOld (iRngD (dC (.int 17)))) (.nm 8) (dYes) (dOpG gEq (dVar 8) (dVar 6)) [8])))) (dRet (dC (.bool false))) (dNext))))
  (dl9)
def dl7 : DS := dSeq (dSet 5 (dOp fAdd (dVar 5) (dFz (dLst (dCons (dVar 4) (dNil))))))
  (dl8)
def dl6 : DS := dSeq (dSet 5 (dOp fAdd (dVar 5) (dFz (dLst (dCons (dExn "Spent") (dCons (dExn "StillFresh") (dCons (dExn "TooDeep") (dCons (dExn "NothingLeft") (dCons (dExn "NoMark") (dCons (dExn "NoDeed") (dCons (dExn "NoHouse") (dCons (dExn "NoChart") (dNil)))))))))))))
  (dl7)
def dl5 : DS := dSeq (dSet 5 (dFz (dLst (dCons (dExn "NoName") (dCons (dExn "Taken") (dCons (dExn "BadSize") (dCons (dExn "NoCloth") (dCons (dExn "NoCell") (dCons (dExn "BadWish") (dCons (dExn "Twice") (dCons (dExn "NoDye") (dNil))))))))))))
  (dl6)
def dl4 : DS := dSeq (dDrop (dAppC (dVar 3) (dTup (dCons (dC (.str "deep")) (dCons (dC (.int 0)) (dCons (dC (.int 0)) (dNil)))))))
  (dl5)
def dl3 : DS := dSeq (dSet 4 (dExb "Barred" (dVar 3)))
  (dl4)
def dl2 : DS := dSeq (dSet 3 (dCel (dCBFG gList (dCons (dVar 2) (dNil)))))
  (dl3)
def d_law : DS := dSeq (dSet 2 (dFz (dLcK (iOld (iRngD (dCall sp_take (dBoxA 1 (dCons (dC (.int 6)) (dNil)))))) (.nm 6) (dYes) (dTup (dCons (dC (.str "spare")) (dCons (dCall sp_take (dBoxA 1 (dCons (dC (.int 41)) (dNil)))) (dCons (dCall sp_take (dBoxA 1 (dCons (dC (.int 12)) (dNil)))) (dNil))))) [6])))
  (dl2)
theorem ok_law (F : FunD K "law" "law" (defArgs (topS 24)) (defBody (topS 24)) (defScope (topS 24)) [] [] f fd) (fr : Fr mg) {fb : FuncData} (B : FnOk P w K mg base CX0 1 (He.ga K "_law_box") fb ["_law_script"] (spBox K)) (bB : Binds K fb ["_law_script"] []) (kB : PySem.W.keepIn K (.ref (He.ga K "_law_box")) = true) (gB : mg "_law_box" = some (.ref (He.ga K "_law_box"))) (D_law_take : DefAt P w K mg base CX0 2 "_law_take" ["_law_box_here", "_law_many"] (spF K sp_take)) (D_law_kinds : DefAt P w K mg base CX0 1 "_law_kinds" ["_law_e"] (spF K sp_law_kinds)) (b_Barred : BarAt P w K mg base "Barred") (x_BadSize : ErK K mg "BadSize") (x_BadWish : ErK K mg "BadWish") (x_NoCell : ErK K mg "NoCell") (x_NoChart : ErK K mg "NoChart") (x_NoCloth : ErK K mg "NoCloth") (x_NoDeed : ErK K mg "NoDeed") (x_NoDye : ErK K mg "NoDye") (x_NoHouse : ErK K mg "NoHouse") (x_NoMark : ErK K mg "NoMark") (x_NoName : ErK K mg "NoName") (x_NothingLeft : ErK K mg "NothingLeft") (x_Spent : ErK K mg "Spent") (x_StillFresh : ErK K mg "StillFresh") (x_Taken : ErK K mg "Taken") (x_TooDeep : ErK K mg "TooDeep") (x_Twice : ErK K mg "Twice") (x_WaxError : ErK K mg "WaxError") (isa : IsaK K) (fve : mg "ValueError" = none) (pure : PurL d_law 9) : FnOk P w K mg base CX0 3 f fd ["_law_script"] (spLaw K) :=
  mkLaw (ds := d_law) (N := ["_law_script", "_law_box_here", "_law_rows", "_law_handed", "_law_barred", "_law_made", "_law_k", "_law_one", "_law_j"]) F sc24 (by decide) (fun cdv A outer s H E hr => ps_set (i := 1) sc24.nd rfl (Or.inr rfl) (pe_call B (hr.mono (by decide)) rfl gB kB bB .nil pass0 (pa_cons (pv 0) pa_nil)))
  (fun cdv A outer s H E hr => have hu := Room.hu hr; (ss_cons (s_setLcK (i := 2) (own := [("_law_k", 6)]) (tg := (.nm 6)) rfl sc24.nd rfl rfl (sw_true rfl rfl rfl (by decide +kernel)) (fun _ _ _ h => h) (i_old (i_rng fr.range (q_call D_law_take hr quiet0 (a_box 1 (pv 1) (a_cons q_int a_nil))))) (by kernel_rfl) (by simp [Tgt.is]) (fun _ _ _ _ _ => (g_nm 6 (pg_name (i := 6) sc24.nd rfl (Or.inl rfl)))) (fun _ _ _ _ _ => ts_nil) (fun _ _ _ _ _ => (q_tup (a_cons q_str (a_cons (q_call D_law_take hr quiet0 (a_box 1 (pv 1) (a_cons q_int a_nil))) (a_cons (q_call D_law_take hr quiet0 (a_box 1 (pv 1) (a_cons q_int a_nil))) a_nil))))))
  (ss_cons (s_set (i := 3) sc24.nd rfl (Or.inl rfl) (q_cel (b_listG fr rfl (a_cons (q_var 2 (pv 2)) a_nil))))
  (ss_cons (s_set (i := 4) sc24.nd rfl (Or.inl rfl) (q_exb b_Barred hr (q_var 3 (pv 3))))
  (ss_cons (s_expr (c_app (q_var 3 (pv 3)) (q_tup (a_cons q_str (a_cons q_int (a_cons q_int a_nil))))))
  (ss_cons (s_set (i := 5) sc24.nd rfl (Or.inl rfl) (q_fz (f_lst (a_cons (q_exn x_NoName) (a_cons (q_exn x_Taken) (a_cons (q_exn x_BadSize) (a_cons (q_exn x_NoCloth) (a_cons (q_exn x_NoCell) (a_cons (q_exn x_BadWish) (a_cons (q_exn x_Twice) (a_cons (q_exn x_NoDye) a_nil)))))))))))
  (ss_cons (s_set (i := 5) sc24.nd rfl (Or.inl rfl) (q_add (q_var 5 (pv 5)) (q_fz (f_lst (a_cons (q_exn x_Spent) (a_cons (q_exn x_StillFresh) (a_cons (q_exn x_TooDeep) (a_cons (q_exn x_NothingLeft) (a_cons (q_exn x_NoMark) (a_cons (q_exn x_NoDeed) (a_cons (q_exn x_NoHouse) (a_cons (q_exn x_NoChart) a_nil))))))))))))
  (ss_cons (s_set (i := 5) sc24.nd rfl (Or.inl rfl) (q_add (q_var 5 (pv 5)) (q_fz (f_lst (a_cons (q_var 4 (pv 4)) a_nil)))))
  (ss_cons (s_forK PassesOwn.never rfl (i_old (i_enum fr.enum (q_var 5 (pv 5)))) (g_tp rfl (gs_cons (pg_name (i := 6) sc24.nd rfl (Or.inr rfl)) (gs_cons (pg_name (i := 7) sc24.nd rfl (Or.inl rfl)) gs_nil))) (ss_cons (s_if (t_w (tw_or (t_not (t_truG (q_isa isa fr (cls_wax isa) (pe_glob rfl x_WaxError.g rfl) (q_var 7 (pv 7))))) (tw_or1 (t_not (t_truG (q_isa isa fr (cls_val isa) (pe_bltn (v := .ty "ValueError") (u := .type "ValueError") rfl fve (by decide +kernel) rfl) (q_var 7 (pv 7)))))))) (ss_one (s_ret q_bl)) ss_nil)
  (ss_one (s_if (t_c1G (m_ne hu) (q_call D_law_kinds hr quiet0 (a_cons (q_var 7 (pv 7)) a_nil)) (q_fz (f_lcK (own := [("_law_j", 8)]) (tg := (.nm 8)) rfl sc24.nd (i_old (i_rng fr.range q_int)) (by kernel_rfl) (by simp [Tgt.is]) (fun _ _ _ _ _ => (g_nm 8 (pg_name (i := 8) sc24.nd rfl (Or.inl rfl)))) (fun _ _ _ _ _ => ts_nil) (fun _ _ _ _ _ => (q_c1G (m_eq hu) (q_var 8 (pv 8)) (q_var 6 (pv 6))))))) (ss_one (s_ret q_bl)) ss_nil))))
  (ss_one (s_ret (q_and (b_isiG (T := "list") fr (by simp) fr.list bv_list (q_bars b_Barred (q_var 4 (pv 4)))) (q_one (q_c1G (m_eq hu) (q_bars b_Barred (q_var 4 (pv 4))) (q_var 2 (pv 2)))))))))))))))) pure
end
--L
def sprD (p : Int × Int) : PyData := .tuple [.str "spare", .int p.1, .int p.2]
def madeE (l : PyData) (C : Str) : PyData := if C = "Barred" then exbD C l else exnD C
theorem kinds_eq : ∀ i ∈ List.range 17, (errL.map fun y => isaC (errL.getD i "") y) = (List.range 17).map fun j => decide (j = i) := by decide +kernel
theorem madeE_or {l : PyData} {C : Str} : madeE l C = exnD C ∨ ∃ k, madeE l C = exbD C k := by
  unfold madeE
  by_cases h : C = "Barred"
  · rw [if_pos h]; exact .inr ⟨l, rfl⟩
  · rw [if_neg h]; exact .inl rfl
theorem getD_map {α β : Type} {f : α → β} {xs : List α} {i : Nat} {a : α} {b : β} (h : i < xs.length) : (xs.map f).getD i b = f (xs.getD i a) := by
  simp [List.getD, h]
theorem pure_law : PurL d_law 9 := by
  simp [d_law]
  intro i i0 i6
  refine ⟨by omega, by omega, ?_⟩
  rw [rng_map]
  refine lck_draw natI sprD (fun _ => True) (List.range i.toNat) trivial (by simp [sizeL]; omega) (fun j hj => ⟨_, rfl, fun Q q => ?_⟩) fun ws hl _ => ?_
  · simp [sizeL]
    exact fun a _ _ b _ _ => q (a, b) trivial
  simp at hl
  simp [dl2, sizeL]
  intro a
  simp [dl3]
  refine ⟨ws.map sprD, by simp [resL], ?_⟩
  simp [dl4, sizeL]
  refine ⟨by omega, ?_⟩
  generalize ((Mu.no.set a (Ob.lst (ws.map sprD))).set a (Ob.lst (ws.map sprD ++ [PyData.tuple [PyData.str (Str.ofString "deep"), PyData.int 0, PyData.int 0]]))) = M
  simp [dl5, dl6, dl7, sizeL]
  have em : [exnD "NoName", exnD "Taken", exnD "BadSize", exnD "NoCloth", exnD "NoCell", exnD "BadWish", exnD "Twice", exnD "NoDye", exnD "Spent", exnD "StillFresh", exnD "TooDeep", exnD "NothingLeft", exnD "NoMark", exnD "NoDeed", exnD "NoHouse", exnD "NoChart", exbD "Barred" (.list (ws.map sprD))] = errL.map (madeE (.list (ws.map sprD))) := by
    simp [errL, madeE]
    and_intros <;> (intro e; exact absurd e (by decide +kernel))
  rw [em]
  have n17 : errL.length = 17 := rfl
  simp [dl8]
  unfold enumD
  rw [List.length_map, n17]
  refine fork_inv (fun items E M' => M' = M ∧ ∃ (todo : List Nat) (a6 a7 : En), items = (todo.map fun i : Nat => PyData.tuple [.int (i : Nat), (errL.map (madeE (.list (ws.map sprD)))).getD i .none]) ∧ (∀ i ∈ todo, i < 17) ∧
    E = [.un, .box, .dat (.list (ws.map sprD)), .dat (cellD a), .dat (exbD "Barred" (.list (ws.map sprD))), .dat (.list (errL.map (madeE (.list (ws.map sprD))))), a6, a7, .un]) (fun _ _ _ _ => trivial) ?_ ?_ _ _ _ ⟨rfl, List.range 17, .un, .un, rfl, fun i hi => by simpa using hi, rfl⟩
  · rintro E M' ⟨rfl, todo, a6, a7, e, ht, rfl⟩
    simp [dl9]
    refine barsD_s ?_
    have rl : resL M' (.list (ws.map sprD)) = .list (ws.map sprD) := rfl
    rw [rl]
    refine ⟨rfl, fun _ => barsD_s ?_, rfl⟩
    rw [rl]
    have ly : Lay 2 (.list (ws.map sprD)) := lay_list (lay_map fun p _ => lay_tup (lay_cons (lay_str (by decide +kernel)) (lay_cons lay_int (lay_cons lay_int lay_nil))))
    refine Eq.mpr (fEq_self ly (by decide)) rfl
  · rintro x r E M' ⟨rfl, todo, a6, a7, e, ht, rfl⟩
    cases todo with
    | nil => simp at e
    | cons y todo =>
      rw [List.map_cons] at e
      injection e with e1 e2
      subst e1 e2
      have hy := ht y (by simp)
      rw [getD_map (a := ("" : Str)) (by omega)]
      have hC : errL.getD y "" ∈ errL := by
        rw [List.getD, List.getElem?_eq_getElem (by omega)]
        exact List.getElem_mem (by omega)
      have hk := kinds_eq y (by simp; omega)
      have ho := madeE_or (l := .list (ws.map sprD)) (C := errL.getD y "")
      generalize errL.getD y "" = C at hC hk ho ⊢
      generalize madeE (.list (ws.map sprD)) C = d at ho ⊢
      have ex : ∀ Q : Str → Prop, Q C → excD d Q := fun Q q => ⟨C, hC, ho, q⟩
      refine ⟨_, rfl, fun Q hQ => ?_⟩
      simp
      refine ex _ ?_
      have w1 : isaC C "WaxError" = true := by unfold isaC; simp
      have w2 : isaC C "ValueError" = true := by unfold isaC; simp
      refine ⟨fun _ => ex _ ⟨w2, fun _ => ⟨C, d, rfl, hC, ho, ?_⟩⟩, w1⟩
      rw [show rngD 0 17 = (List.range 17).map natI from rfl]
      refine lck_map natI (fun j : Nat => .bool (decide (j = y))) (List.range 17) trivial (by simp [sizeL]) (fun j hj => ⟨_, rfl, fun Q q => ?_⟩) ?_
      · simp
        rw [show decide ((j : Int) = (y : Int)) = decide (j = y) by rw [decide_eq_decide]; omega]
        exact q
      · rw [show (errL.map fun y => PyData.bool (isaC C y)) = (errL.map fun y => isaC C y).map PyData.bool by rw [List.map_map]; rfl, hk]
        rw [show ((List.range 17).map fun j : Nat => PyData.bool (decide (j = y))) = ((List.range 17).map fun j => decide (j = y)).map PyData.bool by rw [List.map_map]; rfl]
        refine Eq.mpr fNe_Bs ?_
        simp
        exact hQ _ _ ⟨rfl, todo, _, _, rfl, fun i hi => ht i (by simp [hi]), rfl⟩

theorem facts {P : Program} {w : World} {K : PySem.W.Frag} {h : Heap} {mg : Str → Option Value} {f : Addr} (X : K.In h) (G : h.Ns mainGlobals mg) (hfa : mg ("law" : Str) = some (.ref f)) (cx : He.SaysX fas fns tbs [] exA w h K) :
    ∃ fd : FuncData, (∀ (s : Shared) (v : Value), BindsTo s fd ⟨[v], []⟩ [("_law_script", v)]) ∧ ∀ base : Heap, K.In base → base.Ns mainGlobals mg → FnOk P w K mg base CX0 3 f fd ["_law_script"] (spLaw K) := by
  have c := cx.t.d
  have fr : Fr mg := ⟨He.free_ok X G (c.fact 41 (f := .free "len") rfl), He.free_ok X G (c.fact 42 (f := .free "list") rfl), He.free_ok X G (c.fact 43 (f := .free "tuple") rfl), He.free_ok X G (c.fact 44 (f := .free "range") rfl), He.free_ok X G (c.fact 45 (f := .free "isinstance") rfl), He.free_ok X G (c.fact 46 (f := .free "int") rfl), He.free_ok X G (c.fact 47 (f := .free "bool") rfl), He.free_ok X G (c.fact 48 (f := .free "str") rfl), He.free_ok X G (c.fact 49 (f := .free "dict") rfl), He.free_ok X G (c.fact 50 (f := .free "all") rfl), He.free_ok X G (c.fact 51 (f := .free "any") rfl), He.free_ok X G (c.fact 52 (f := .free "sorted") rfl), He.free_ok X G (c.fact 53 (f := .free "min") rfl), He.free_ok X G (c.fact 54 (f := .free "max") rfl), He.free_ok X G (c.fact 55 (f := .free "set") rfl), He.free_ok X G (c.fact 56 (f := .free "enumerate") rfl), He.free_ok X G (c.fact 57 (f := .free "reversed") rfl), He.free_ok X G (c.fact 58 (f := .free "zip") rfl)⟩
  have x_WaxError : ErK K mg "WaxError" := let q := He.exc_ok (c.fact 1 (f := .exc "WaxError") rfl); ⟨He.glo_ok X G (c.fact 0 (f := .glo "WaxError") rfl), q.1, q.2.1, q.2.2.1, q.2.2.2⟩
  have x_NoName : ErK K mg "NoName" := let q := He.exc_ok (c.fact 3 (f := .exc "NoName") rfl); ⟨He.glo_ok X G (c.fact 2 (f := .glo "NoName") rfl), q.1, q.2.1, q.2.2.1, q.2.2.2⟩
  have x_Taken : ErK K mg "Taken" := let q := He.exc_ok (c.fact 5 (f := .exc "Taken") rfl); ⟨He.glo_ok X G (c.fact 4 (f := .glo "Taken") rfl), q.1, q.2.1, q.2.2.1, q.2.2.2⟩
  have x_BadSize : ErK K mg "BadSize" := let q := He.exc_ok (c.fact 7 (f := .exc "BadSize") rfl); ⟨He.glo_ok X G (c.fact 6 (f := .glo "BadSize") rfl), q.1, q.2.1, q.2.2.1, q.2.2.2⟩
  have x_NoCloth : ErK K mg "NoCloth" := let q := He.exc_ok (c.fact 9 (f := .exc "NoCloth") rfl); ⟨He.glo_ok X G (c.fact 8 (f := .glo "NoCloth") rfl), q.1, q.2.1, q.2.2.1, q.2.2.2⟩
  have x_NoCell : ErK K mg "NoCell" := let q := He.exc_ok (c.fact 11 (f := .exc "NoCell") rfl); ⟨He.glo_ok X G (c.fact 10 (f := .glo "NoCell") rfl), q.1, q.2.1, q.2.2.1, q.2.2.2⟩
  have x_BadWish : ErK K mg "BadWish" := let q := He.exc_ok (c.fact 13 (f := .exc "BadWish") rfl); ⟨He.glo_ok X G (c.fact 12 (f := .glo "BadWish") rfl), q.1, q.2.1, q.2.2.1, q.2.2.2⟩
  have x_Twice : ErK K mg "Twice" := let q := He.exc_ok (c.fact 15 (f := .exc "Twice") rfl); ⟨He.glo_ok X G (c.fact 14 (f := .glo "Twice") rfl), q.1, q.2.1, q.2.2.1, q.2.2.2⟩
  have x_NoDye : ErK K mg "NoDye" := let q := He.exc_ok (c.fact 17 (f := .exc "NoDye") rfl); ⟨He.glo_ok X G (c.fact 16 (f := .glo "NoDye") rfl), q.1, q.2.1, q.2.2.1, q.2.2.2⟩
  have x_Spent : ErK K mg "Spent" := let q := He.exc_ok (c.fact 19 (f := .exc "Spent") rfl); ⟨He.glo_ok X G (c.fact 18 (f := .glo "Spent") rfl), q.1, q.2.1, q.2.2.1, q.2.2.2⟩
  have x_StillFresh : ErK K mg "StillFresh" := let q := He.exc_ok (c.fact 21 (f := .exc "StillFresh") rfl); ⟨He.glo_ok X G (c.fact 20 (f := .glo "StillFresh") rfl), q.1, q.2.1, q.2.2.1, q.2.2.2⟩
  have x_TooDeep : ErK K mg "TooDeep" := let q := He.exc_ok (c.fact 23 (f := .exc "TooDeep") rfl); ⟨He.glo_ok X G (c.fact 22 (f := .glo "TooDeep") rfl), q.1, q.2.1, q.2.2.1, q.2.2.2⟩
  have x_NothingLeft : ErK K mg "NothingLeft" := let q := He.exc_ok (c.fact 25 (f := .exc "NothingLeft") rfl); ⟨He.glo_ok X G (c.fact 24 (f := .glo "NothingLeft") rfl), q.1, q.2.1, q.2.2.1, q.2.2.2⟩
  have x_NoMark : ErK K mg "NoMark" := let q := He.exc_ok (c.fact 27 (f := .exc "NoMark") rfl); ⟨He.glo_ok X G (c.fact 26 (f := .glo "NoMark") rfl), q.1, q.2.1, q.2.2.1, q.2.2.2⟩
  have x_NoDeed : ErK K mg "NoDeed" := let q := He.exc_ok (c.fact 29 (f := .exc "NoDeed") rfl); ⟨He.glo_ok X G (c.fact 28 (f := .glo "NoDeed") rfl), q.1, q.2.1, q.2.2.1, q.2.2.2⟩
  have x_NoHouse : ErK K mg "NoHouse" := let q := He.exc_ok (c.fact 31 (f := .exc "NoHouse") rfl); ⟨He.glo_ok X G (c.fact 30 (f := .glo "NoHouse") rfl), q.1, q.2.1, q.2.2.1, q.2.2.2⟩
  have x_NoChart : ErK K mg "NoChart" := let q := He.exc_ok (c.fact 33 (f := .exc "NoChart") rfl); ⟨He.glo_ok X G (c.fact 32 (f := .glo "NoChart") rfl), q.1, q.2.1, q.2.2.1, q.2.2.2⟩
  obtain ⟨fd_bar, F_bar⟩ := c.def_ 0 (d := dfn ("Barred", some "__init__") "__init__" "Barred.__init__" (inClass (topS 18) 0)) rfl
  have B_Barred : ∀ base, BarAt P w K mg base "Barred" := fun base => ⟨He.glo_ok X G (c.fact 34 (f := .glo "Barred") rfl), barB_ok (exb_at cx.more 0 rfl), fd_bar, ok_bar F_bar fr, (F_bar.bindsN fun _ _ _ _ _ _ us hl => match us, hl with | [_, _], _ => rfl)⟩
  have isa : IsaK K := isaB_ok (exb_at cx.more 1 rfl)
  have fve := He.free_ok X G (c.fact 59 (f := .free "ValueError") rfl)
  obtain ⟨fd__law_box, F__law_box⟩ := c.def_ 1 (d := dfn ("_law_box", none) "_law_box" "_law_box" (topS 20)) rfl
  have B_box : Binds K fd__law_box ["_law_script"] [] := (F__law_box.bindsN fun _ _ _ _ _ _ us hl => match us, hl with | [_], _ => rfl)
  obtain ⟨fd__law_mixed, F__law_mixed⟩ := c.def_ 2 (d := dfn ("_law_mixed", none) "_law_mixed" "_law_mixed" (topS 21)) rfl
  obtain ⟨fd__law_take, F__law_take⟩ := c.def_ 3 (d := dfn ("_law_take", none) "_law_take" "_law_take" (topS 22)) rfl
  have D_law_take : ∀ base, DefAt P w K mg base CX0 2 "_law_take" ["_law_box_here", "_law_many"] (spF K sp_take) := fun base => ⟨_, ok_take F__law_take fr (ok_mixed F__law_mixed) (F__law_mixed.bindsN fun _ _ _ _ _ _ us hl => match us, hl with | [_, _], _ => rfl) F__law_mixed.kp (He.glo_ok X G (c.fact 37 (f := .glo "_law_mixed") rfl)), (F__law_take.bindsN fun _ _ _ _ _ _ us hl => match us, hl with | [_, _], _ => rfl), F__law_take.kp, He.glo_ok X G (c.fact 38 (f := .glo "_law_take") rfl)⟩
  obtain ⟨fd__law_kinds, F__law_kinds⟩ := c.def_ 4 (d := dfn ("_law_kinds", none) "_law_kinds" "_law_kinds" (topS 23)) rfl
  have D_law_kinds : ∀ base, DefAt P w K mg base CX0 1 "_law_kinds" ["_law_e"] (spF K sp_law_kinds) := fun base => ⟨_, ok_law_kinds F__law_kinds fr (B_Barred base) x_BadSize x_BadWish x_NoCell x_NoChart x_NoCloth x_NoDeed x_NoDye x_NoHouse x_NoMark x_NoName x_NothingLeft x_Spent x_StillFresh x_Taken x_TooDeep x_Twice isa, (F__law_kinds.bindsN fun _ _ _ _ _ _ us hl => match us, hl with | [_], _ => rfl), F__law_kinds.kp, He.glo_ok X G (c.fact 39 (f := .glo "_law_kinds") rfl)⟩
  obtain ⟨fd_law, F_law⟩ := c.def_ 5 (d := dfn ("law", none) "law" "law" (topS 24)) rfl
  have e := hfa.symm.trans (He.glo_ok X G (c.fact 40 (f := .glo "law") rfl))
  cases e
  have b := FunD.bindsA (ps := ["_law_script"]) F_law fun _ _ _ _ _ _ us hl => match us, hl with | [_], _ => rfl
  exact ⟨fd_law, fun s v => b s [v] rfl, fun base _ _ => ok_law F_law fr (ok_box F__law_box fr) B_box F__law_box.kp (He.glo_ok X G (c.fact 36 (f := .glo "_law_box") rfl)) (D_law_take base) (D_law_kinds base) (B_Barred base) x_BadSize x_BadWish x_NoCell x_NoChart x_NoCloth x_NoDeed x_NoDye x_NoHouse x_NoMark x_NoName x_NothingLeft x_Spent x_StillFresh x_Taken x_TooDeep x_Twice x_WaxError isa fve pure_law⟩
end Wx
open PySem PySem.W PySem.Calls PyProof.Rows
theorem PySem.Challenge.cw_waxcloth_k06_refusals_apart_holds : PySem.Challenge.rw_waxcloth_k06_refusals_apart.Holds := by
  w_on; o_law
  refine HandSHeadRun.head_any (r := OpenLaw.row PySem.Challenge.rw_waxcloth_k06_refusals_apart) (q := view (OpenLaw.row PySem.Challenge.rw_waxcloth_k06_refusals_apart).prog [24]) (H := Wx.hk) (ob := Wx.ob) (M := 12000) (loose := Wx.names) (d := HandSHeadRun.topDef (OpenLaw.row PySem.Challenge.rw_waxcloth_k06_refusals_apart).prog 24) (kwd := []) Wx.ob_eq
    (by kernel_rfl) (fun s => by kernel_rfl) Wx.run (by kernel_rfl) (by kernel_rfl) (by kernel_rfl) (by rfl) (by first | assumption | decide +kernel) (by decide +kernel) ⟨rfl, rfl, rfl, rfl, rfl, by decide +kernel⟩ ?hw ?hc
  case hw => w_witness2
  case hc =>
    refine L2.walk_ofE (l := PySem.Challenge.rw_waxcloth_k06_refusals_apart) (n := 63) (k := 3) (x := "_law_script") (CX := L2.CX0) rfl (by decide) (by kernel_rfl) ⟨rfl, by decide, by decide⟩ ?F (fun _ _ _ _ z => z)
    intro w mg fa h Y G hmg0
    obtain ⟨K, KX, c⟩ := Y
    have hmg : mg ("law" : PySem.Str) = some (.ref fa) := by
      have e : (HandSHeadRun.topDef (OpenLaw.row PySem.Challenge.rw_waxcloth_k06_refusals_apart).prog 24).name = ("law" : PySem.Str) := by kernel_rfl
      rw [← e]
      exact hmg0
    obtain ⟨fd, hb, hF⟩ := Wx.facts (P := (PySem.Challenge.rw_waxcloth_k06_refusals_apart).prog) (w := w) KX G hmg c
    exact ⟨K, fd, Wx.spLaw K, KX, hb, fun H a ns hl _ hS => ⟨a, ns, rfl, hS, hl, fun _ => rfl⟩, hF⟩
