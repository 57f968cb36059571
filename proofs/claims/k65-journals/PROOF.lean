import PyProof.Rows.All
import Wide.All
import OpenK.AllK
import Wide.FinOn
import HandS.ForMost
import HandS.ForExc
import HandS.TryMany
import HandS.ExcInit
import HandS.ExcField
import HandS.Lambda
import HandS.DictComp
import HandS.TupLen
import HandS.TupAny
import HandS.TupMul
import HandS.Conv
import HandS.Style
import HandS.IsInst
import HandS.Deep
import HandS.Wide
import KE.SortData
import KE.KExcSuper
import HandS.ExcSuper
import HandS.Steps
import HandS.EndTab
import PySem.Challenge.RW_mapsapart_k65_whole_journals_on_disks_cu
set_option Elab.async false
set_option maxRecDepth 100000
set_option maxHeartbeats 4000000
set_option linter.all false
/-! part A0 -/
/-! The own layer: heaps that grow, data on a heap, short rules for readings. -/
namespace Y
open PySem L2
/-! ### how heaps go on -/
/-- all that was known stays -/
def Ex (H H' : Hp) : Prop := ∀ a o, H a = some o → H' a = some o
/-- all but what stands at S; tuples stay always -/
structure Go (S : List Addr) (H H' : Hp) : Prop where
  keep : ∀ a o, a ∉ S → H a = some o → H' a = some o
  tup : ∀ a xs, H a = some (.tup xs) → H' a = some (.tup xs)
theorem Ex.refl (H : Hp) : Ex H H := fun _ _ h => h
theorem Ex.trans {H H1 H2 : Hp} (a : Ex H H1) (b : Ex H1 H2) : Ex H H2 := fun x o h => b x o (a x o h)
theorem Ex.go {H H' : Hp} (e : Ex H H') {S : List Addr} : Go S H H' := ⟨fun a o _ h => e a o h, fun a xs h => e a _ h⟩
theorem Ex.free {H H' : Hp} (e : Ex H H') {l : Addr} (h : H' l = none) : H l = none := by
  cases q : H l with
  | none => rfl
  | some o => rw [e l o q] at h; cases h
theorem Ex.new {H : Hp} {p : Addr} {o : HO} (h : H p = none) : Ex H (upd H p o) := fun a u e => by
  rw [upd_ne (ne_of_none e h)]; exact e
theorem Go.refl (S : List Addr) (H : Hp) : Go S H H := ⟨fun _ _ _ h => h, fun _ _ h => h⟩
theorem Go.trans {S : List Addr} {H H1 H2 : Hp} (a : Go S H H1) (b : Go S H1 H2) : Go S H H2 :=
  ⟨fun x o n h => b.keep x o n (a.keep x o n h), fun x xs h => b.tup x xs (a.tup x xs h)⟩
theorem Go.mono {S T : List Addr} {H H1 : Hp} (a : Go S H H1) (h : ∀ x ∈ S, x ∈ T) : Go T H H1 :=
  ⟨fun x o n e => a.keep x o (fun z => n (h x z)) e, a.tup⟩
theorem Go.ex {H H1 : Hp} (a : Go [] H H1) : Ex H H1 := fun x o h => a.keep x o (by simp) h
/-- an object that is no tuple is written anew -/
theorem Go.set {H : Hp} {p : Addr} {o u : HO} (h : H p = some u) (n : ∀ xs, u ≠ .tup xs) : Go [p] H (upd H p o) :=
  ⟨fun a v m e => by rw [upd_ne (fun z => m (by simp [z]))]; exact e, fun a xs e => by
    rw [upd_ne (fun z => by rw [z, h] at e; exact n xs (Option.some.inj e))]; exact e⟩
theorem Go.fresh {H H' H2 : Hp} {p : Addr} {S : List Addr} (e : Ex H H') (n : H p = none) (g : Go (p :: S) H' H2) : Go S H H2 :=
  ⟨fun a o m h => g.keep a o (by
      intro z
      rcases List.mem_cons.mp z with z | z
      · rw [z, n] at h; cases h
      · exact m z) (e a o h), fun a xs h => g.tup a xs (e a _ h)⟩
/-- H without what stands at S -/
def hide (S : List Addr) (H : Hp) : Hp := fun a => if a ∈ S then none else H a
theorem hide_ex (S : List Addr) (H : Hp) : Ex (hide S H) H := fun a o h => by
  unfold hide at h
  split at h
  · cases h
  · exact h
theorem hide_at {S : List Addr} {H : Hp} {a : Addr} (h : a ∉ S) : hide S H a = H a := by unfold hide; rw [if_neg h]
theorem Go.hide {S : List Addr} {H H' : Hp} (g : Go S H H') : Ex (hide S H) (hide S H') := fun a o h => by
  by_cases m : a ∈ S
  · unfold Y.hide at h; rw [if_pos m] at h; cases h
  · rw [hide_at m] at h ⊢; exact g.keep a o m h
/-! ### data that stand on a heap; an instance is told as an empty dict, which no other datum is -/
/-- what isinstance asks of an own class -/
structure InsO (K : PySem.W.Frag) (C : Addr) : Prop where
  cl : Cls K C
  ha : PySem.W.findIn K (.ref C) "__class__" = some (some (.builtin "object.__class__"))
  hn : PySem.W.specialIn K (.builtin "object.__class__") "__get__" = some (some (.builtin "getset_descriptor.__get__"))
  htk : PySem.W.takesIn K (.builtin "object.__class__") = some true
  hm : PySem.W.mroIn K C (.type "object") = some true
  kT : PySem.W.kitOne K (.ref C) (.type "tuple") = some false
  kL : PySem.W.kitOne K (.ref C) (.type "list") = some false
  kI : PySem.W.kitOne K (.ref C) (.type "int") = some false
  kB : PySem.W.kitOne K (.ref C) (.type "bool") = some false
  kS : PySem.W.kitOne K (.ref C) (.type "str") = some false
variable {K : PySem.W.Frag}
mutual
inductive Wt (K : PySem.W.Frag) (H : Hp) : V → PyData → Prop
  | non : Wt K H .non .none
  | bl (b : Bool) : Wt K H (.bl b) (.bool b)
  | int (i : Int) : Wt K H (.int i) (.int i)
  | str (x : Str) : Wt K H (.str x) (.str x)
  | tup {a : Addr} {xs : List V} {ds : List PyData} : H a = some (.tup xs) → WtL K H xs ds → Wt K H (.ref a) (.tuple ds)
  | lst {a : Addr} {xs : List V} {ds : List PyData} : H a = some (.lst xs) → WtL K H xs ds → Wt K H (.ref a) (.list ds)
  | obj {a C dx : Addr} {fs : List (Str × V)} : H a = some (.ins C dx fs) → InsO K C → Wt K H (.ref a) (.dict [])
inductive WtL (K : PySem.W.Frag) (H : Hp) : List V → List PyData → Prop
  | nil : WtL K H [] []
  | cons {v : V} {vs : List V} {d : PyData} {ds : List PyData} : Wt K H v d → WtL K H vs ds → WtL K H (v :: vs) (d :: ds)
end
mutual
theorem Wt.ex {H H' : Hp} (e : Ex H H') : ∀ {v : V} {d : PyData}, Wt K H v d → Wt K H' v d
  | _, _, .non => .non
  | _, _, .bl b => .bl b
  | _, _, .int i => .int i
  | _, _, .str x => .str x
  | _, _, .tup h r => .tup (e _ _ h) (WtL.ex e r)
  | _, _, .lst h r => .lst (e _ _ h) (WtL.ex e r)
  | _, _, .obj h c => .obj (e _ _ h) c
theorem WtL.ex {H H' : Hp} (e : Ex H H') : ∀ {vs : List V} {ds : List PyData}, WtL K H vs ds → WtL K H' vs ds
  | _, _, .nil => .nil
  | _, _, .cons h r => .cons (Wt.ex e h) (WtL.ex e r)
end
/-- nothing but tuples and flat things -/
def tupOnly : PyData → Bool
  | .list _ => false
  | .dict _ => false
  | .tuple xs => tupOnlyL xs
  | _ => true
where
  tupOnlyL : List PyData → Bool
  | [] => true
  | d :: ds => tupOnly d && tupOnlyL ds
abbrev tupOnlyL := tupOnly.tupOnlyL
mutual
theorem Wt.go {S : List Addr} {H H' : Hp} (g : Go S H H') : ∀ {v : V} {d : PyData}, tupOnly d = true → Wt K H v d → Wt K H' v d
  | _, _, _, .non => .non
  | _, _, _, .bl b => .bl b
  | _, _, _, .int i => .int i
  | _, _, _, .str x => .str x
  | _, .tuple ds, t, .tup h r => .tup (g.tup _ _ h) (WtL.go g (by simpa [tupOnly] using t) r)
  | _, .list _, t, .lst h r => by simp [tupOnly] at t
  | _, .dict _, t, .obj h c => by simp [tupOnly] at t
theorem WtL.go {S : List Addr} {H H' : Hp} (g : Go S H H') : ∀ {vs : List V} {ds : List PyData}, tupOnly.tupOnlyL ds = true → WtL K H vs ds → WtL K H' vs ds
  | _, _, _, .nil => .nil
  | _, _, t, .cons h r => by
    simp only [tupOnly.tupOnlyL, Bool.and_eq_true] at t
    exact .cons (Wt.go g t.1 h) (WtL.go g t.2 r)
end
theorem WtL.len {H : Hp} : ∀ {vs : List V} {ds : List PyData}, WtL K H vs ds → vs.length = ds.length
  | _, _, .nil => rfl
  | _, _, .cons _ r => by simp [WtL.len r]
theorem WtL.get {H : Hp} : ∀ {vs : List V} {ds : List PyData} {i : Nat} {v : V}, WtL K H vs ds → vs[i]? = some v → ∃ d, ds[i]? = some d ∧ Wt K H v d
  | _, _, _, _, .nil, e => by simp at e
  | _, _, 0, _, .cons h _, e => by simp at e; subst e; exact ⟨_, rfl, h⟩
  | _, _, i + 1, _, .cons _ r, e => by
    obtain ⟨d, h1, h2⟩ := WtL.get (i := i) r (by simpa using e)
    exact ⟨d, by simpa using h1, h2⟩
theorem WtL.getD {H : Hp} : ∀ {vs : List V} {ds : List PyData} {i : Nat} {d : PyData}, WtL K H vs ds → ds[i]? = some d → ∃ v, vs[i]? = some v ∧ Wt K H v d
  | _, _, _, _, .nil, e => by simp at e
  | _, _, 0, _, .cons h _, e => by simp at e; subst e; exact ⟨_, rfl, h⟩
  | _, _, i + 1, _, .cons _ r, e => by
    obtain ⟨d, h1, h2⟩ := WtL.getD (i := i) r (by simpa using e)
    exact ⟨d, by simpa using h1, h2⟩
theorem WtL.append {H : Hp} : ∀ {vs ws : List V} {ds es : List PyData}, WtL K H vs ds → WtL K H ws es → WtL K H (vs ++ ws) (ds ++ es)
  | _, _, _, _, .nil, s => s
  | _, _, _, _, .cons h r, s => .cons h (WtL.append r s)
theorem WtL.drop {H : Hp} : ∀ {vs : List V} {ds : List PyData} (n : Nat), WtL K H vs ds → WtL K H (vs.drop n) (ds.drop n)
  | _, _, 0, r => r
  | _, _, _ + 1, .nil => .nil
  | _, _, n + 1, .cons _ r => WtL.drop n r
theorem WtL.take {H : Hp} : ∀ {vs : List V} {ds : List PyData} (n : Nat), WtL K H vs ds → WtL K H (vs.take n) (ds.take n)
  | _, _, 0, _ => .nil
  | _, _, _ + 1, .nil => .nil
  | _, _, n + 1, .cons h r => .cons h (WtL.take n r)
theorem WtL.set {H : Hp} {v : V} {d : PyData} (h : Wt K H v d) : ∀ {vs : List V} {ds : List PyData} (n : Nat), WtL K H vs ds → WtL K H (vs.set n v) (ds.set n d)
  | _, _, _, .nil => .nil
  | _, _, 0, .cons _ r => .cons h r
  | _, _, n + 1, .cons q r => .cons q (WtL.set h n r)
theorem WtL.map {H : Hp} {α : Type} {f : α → V} {g : α → PyData} : ∀ {xs : List α}, (∀ x ∈ xs, Wt K H (f x) (g x)) → WtL K H (xs.map f) (xs.map g)
  | [], _ => .nil
  | x :: xs, h => .cons (h x (List.mem_cons_self ..)) (WtL.map fun y hy => h y (List.mem_cons_of_mem _ hy))
theorem WtL.replicate {H : Hp} {v : V} {d : PyData} (h : Wt K H v d) : ∀ n : Nat, WtL K H (List.replicate n v) (List.replicate n d)
  | 0 => .nil
  | n + 1 => .cons h (WtL.replicate h n)
mutual
/-- told once: a value stands for one datum (but lists and instances told apart by their heaps) -/
theorem Wt.dp {H : Hp} : ∀ {v : V} {d : PyData}, d.canLay0 = true → Wt K H v d → Dp K H v d
  | _, _, _, .non => .non
  | _, _, _, .bl b => .bl b
  | _, _, _, .int i => .int i
  | _, _, _, .str x => .str x
  | _, .tuple ds, t, .tup h r => .tup (SqT.of h) (WtL.dp (by simpa [PyData.canLay0] using t) r)
  | _, .list ds, t, .lst h r => .lst (SqL.of h) (WtL.dp (by simpa [PyData.canLay0] using t) r)
  | _, .dict _, t, .obj h c => by simp [PyData.canLay0] at t
theorem WtL.dp {H : Hp} : ∀ {vs : List V} {ds : List PyData}, PyData.canLayAll0 ds = true → WtL K H vs ds → DpAll K H vs ds
  | _, _, _, .nil => .nil
  | _, _, t, .cons h r => by
    simp only [PyData.canLayAll0, Bool.and_eq_true] at t
    exact .cons (Wt.dp t.1 h) (WtL.dp t.2 r)
end
/-! ### kinds of data -/
def isTup : PyData → Bool | .tuple _ => true | _ => false
def isLst : PyData → Bool | .list _ => true | _ => false
def isBoo : PyData → Bool | .bool _ => true | _ => false
def isStr : PyData → Bool | .str _ => true | _ => false
def isIntg : PyData → Bool | .int _ => true | .bool _ => true | _ => false
section
variable {H : Hp} {x : V} {d : PyData} {Q : VK}
theorem r_isi {n : String} {c : PyData → Bool} (h : Wt K H x d) (q : Q (.bl (c d)) H)
    (f : (d = .none → kitB "NoneType" n = some (c d)) ∧ (∀ b, d = .bool b → kitB "bool" n = some (c d)) ∧ (∀ b, d = .int b → kitB "int" n = some (c d)) ∧ (∀ b, d = .str b → kitB "str" n = some (c d)) ∧
      (∀ b, d = .tuple b → kitB "tuple" n = some (c d)) ∧ (∀ b, d = .list b → kitB "list" n = some (c d)) ∧ (d = .dict [] → ∀ C, InsO K C → PySem.W.kitOne K (.ref C) (.type n) = some (c d))) : rIsi K [x, .ty n] H Q := by
  obtain ⟨f1, f2, f3, f4, f5, f6, f7⟩ := f
  cases h with
  | non => exact ⟨_, _, _, _, _, rfl, .ty n, .base .non, kit_ty (f1 rfl), q⟩
  | bl b => exact ⟨_, _, _, _, _, rfl, .ty n, .base (.bl b), kit_ty (f2 b rfl), q⟩
  | int b => exact ⟨_, _, _, _, _, rfl, .ty n, .base (.int b), kit_ty (f3 b rfl), q⟩
  | str b => exact ⟨_, _, _, _, _, rfl, .ty n, .base (.str b), kit_ty (f4 b rfl), q⟩
  | tup e r => exact ⟨_, _, _, _, _, rfl, .ty n, .base (.tup e), kit_ty (f5 _ rfl), q⟩
  | lst e r => exact ⟨_, _, _, _, _, rfl, .ty n, .base (.lst e), kit_ty (f6 _ rfl), q⟩
  | obj e c => exact ⟨_, _, _, _, _, rfl, .ty n, .base (.ins e c.cl c.ha c.hn c.htk c.hm), f7 rfl _ c, q⟩
theorem r_isTup (h : Wt K H x d) (q : Q (.bl (isTup d)) H) : rIsi K [x, .ty "tuple"] H Q :=
  r_isi h q ⟨fun e => by subst e; decide +kernel, fun b e => by subst e; show kitB "bool" "tuple" = some false; decide +kernel, fun b e => by subst e; show kitB "int" "tuple" = some false; decide +kernel, fun b e => by subst e; show kitB "str" "tuple" = some false; decide +kernel,
    fun b e => by subst e; show kitB "tuple" "tuple" = some true; decide +kernel, fun b e => by subst e; show kitB "list" "tuple" = some false; decide +kernel, fun e C c => by subst e; exact c.kT⟩
theorem r_isLst (h : Wt K H x d) (q : Q (.bl (isLst d)) H) : rIsi K [x, .ty "list"] H Q :=
  r_isi h q ⟨fun e => by subst e; decide +kernel, fun b e => by subst e; show kitB "bool" "list" = some false; decide +kernel, fun b e => by subst e; show kitB "int" "list" = some false; decide +kernel, fun b e => by subst e; show kitB "str" "list" = some false; decide +kernel,
    fun b e => by subst e; show kitB "tuple" "list" = some false; decide +kernel, fun b e => by subst e; show kitB "list" "list" = some true; decide +kernel, fun e C c => by subst e; exact c.kL⟩
theorem r_isInt (h : Wt K H x d) (q : Q (.bl (isIntg d)) H) : rIsi K [x, .ty "int"] H Q :=
  r_isi h q ⟨fun e => by subst e; decide +kernel, fun b e => by subst e; show kitB "bool" "int" = some true; decide +kernel, fun b e => by subst e; show kitB "int" "int" = some true; decide +kernel, fun b e => by subst e; show kitB "str" "int" = some false; decide +kernel,
    fun b e => by subst e; show kitB "tuple" "int" = some false; decide +kernel, fun b e => by subst e; show kitB "list" "int" = some false; decide +kernel, fun e C c => by subst e; exact c.kI⟩
theorem r_isBool (h : Wt K H x d) (q : Q (.bl (isBoo d)) H) : rIsi K [x, .ty "bool"] H Q :=
  r_isi h q ⟨fun e => by subst e; decide +kernel, fun b e => by subst e; show kitB "bool" "bool" = some true; decide +kernel, fun b e => by subst e; show kitB "int" "bool" = some false; decide +kernel, fun b e => by subst e; show kitB "str" "bool" = some false; decide +kernel,
    fun b e => by subst e; show kitB "tuple" "bool" = some false; decide +kernel, fun b e => by subst e; show kitB "list" "bool" = some false; decide +kernel, fun e C c => by subst e; exact c.kB⟩
theorem r_isStr (h : Wt K H x d) (q : Q (.bl (isStr d)) H) : rIsi K [x, .ty "str"] H Q :=
  r_isi h q ⟨fun e => by subst e; decide +kernel, fun b e => by subst e; show kitB "bool" "str" = some false; decide +kernel, fun b e => by subst e; show kitB "int" "str" = some false; decide +kernel, fun b e => by subst e; show kitB "str" "str" = some true; decide +kernel,
    fun b e => by subst e; show kitB "tuple" "str" = some false; decide +kernel, fun b e => by subst e; show kitB "list" "str" = some false; decide +kernel, fun e C c => by subst e; exact c.kS⟩
end
end Y
/-! part A1 -/
/-! Rules that the layer lacks: orders of any kind, sorted keys of a dict by tuples. -/
namespace Y
open PySem L2 PySem.Spec PyProof.Rows
/-- a key as a datum -/
def kD : L2.Key → PyData
  | .inl i => .int i
  | .inr y => .str y
def tkD (k : List L2.Key) : PyData := .tuple (k.map kD)
section
variable {X : Cx}
/-- a < b of data that are alike -/
def rLtD (K : PySem.W.Frag) : R2 := fun x y H Q => ∃ d e, Dp K H x d ∧ Dp K H y e ∧ PySem.W.alike d e = true ∧ d ≠ .none ∧ min d.depth e.depth ≤ 64 ∧ Q (.bl (PySem.W.dataLt d e)) H
theorem op_ltD (hu : X.A.units + 64 < cLine) : OpR X (compareOp .Lt) (rLtD X.K) := by
  intro pins s σ H x y v u Q I rx ry h
  obtain ⟨d, e, hd, he, al, dn, dp, q⟩ := h
  obtain ⟨as, r1⟩ := Dp.reads I d x v hd rx
  obtain ⟨bs, r2⟩ := Dp.reads I e y u he ry
  exact PySem.W.rcLt_alike d e _ s v u as bs r1 r2 al dn (by omega) _ _ _ _ ⟨.bl _, H, I, rfl, q⟩
/-- sorted(d) of a dict whose keys are tuples: the keys' tuples in order -/
def rSortK : List V → Hp → VK → Prop := fun vs H Q => ∃ (a : Addr) (kvs : List (List L2.Key × V)), vs = [.ref a] ∧ H a = some (.dT kvs) ∧ (∀ k ∈ kvs.map (·.1), k ≠ []) ∧
  (∀ k ∈ kvs.map (·.1), ∀ l ∈ kvs.map (·.1), PySem.W.alikeAll (k.map kD) (l.map kD) = true) ∧
  ∀ (p : Addr) (bs : List Addr), H p = none → Paired (fun b k => H b = some (.tup (k.map kV))) bs ((kvs.map (·.1)).mergeSort (PySem.W.dataLe false tkD)) → Q (.ref p) (upd H p (.lst (bs.map V.ref)))
theorem reads_key {h : Heap} : ∀ {k : List L2.Key} {its : List Value}, Vals (k.map kV) its → ReadsAll h its (k.map kD) []
  | [], _, .nil => .nil
  | .inl i :: k, _, .cons r t => by
    obtain ⟨z, rfl⟩ := r
    exact ReadsAll.cons (Reads.int i z) (reads_key t)
  | .inr i :: k, _, .cons r t => by
    obtain ⟨z, rfl⟩ := r
    exact ReadsAll.cons (Reads.str i z) (reads_key t)
theorem depth_key : ∀ k : List L2.Key, PyData.depthAll (k.map kD) = 0
  | [] => by simp [PyData.depthAll]
  | .inl i :: k => by simp [PyData.depthAll, kD, PyData.depth, depth_key k]
  | .inr i :: k => by simp [PyData.depthAll, kD, PyData.depth, depth_key k]
theorem each_of {R : Value → List L2.Key → Prop} : ∀ {vs : List Value} {ks : List (List L2.Key)}, vs.length = ks.length → (∀ (j : Nat) (v : Value), vs[j]? = some v → ∃ k, ks[j]? = some k ∧ R v k) → PySem.W.EachIs R vs ks
  | [], [], _, _ => .nil
  | v :: vs, k :: ks, hl, h => by
    obtain ⟨k', e, r⟩ := h 0 v rfl
    have e' : k = k' := by simpa using e
    subst e'
    exact .cons r (each_of (by simpa using hl) fun j v e => by
      obtain ⟨k, a, b⟩ := h (j + 1) v (by simpa using e)
      exact ⟨k, by simpa using a, b⟩)
  | [], _ :: _, hl, _ => by simp at hl
  | _ :: _, [], hl, _ => by simp at hl
theorem refs_of {H : Hp} : ∀ {vs : List Value} {ks : List (List L2.Key)}, PySem.W.EachIs (fun v k => ∃ b, v = Value.ref b ∧ H b = some (.tup (k.map kV))) vs ks → ∃ bs : List Addr, vs = bs.map Value.ref ∧ Paired (fun b (k : List L2.Key) => H b = some (.tup (k.map kV))) bs ks
  | _, _, .nil => ⟨[], rfl, .nil⟩
  | _, _, .cons h t => by
    obtain ⟨b, rfl, hb⟩ := h
    obtain ⟨bs, rfl, r⟩ := refs_of t
    exact ⟨b :: bs, rfl, .cons hb r⟩
theorem call_sortK (hc : X.calm = true) (hu : X.A.units + 64 < cLine) : CallR X (.builtin "sorted") rSortK := by
  intro pins s σ H xs us Q I r h
  obtain ⟨a, kvs, rfl, ha, ne, al, q⟩ := h
  obtain ⟨u, rfl, rx⟩ := vals1 r
  cases rx
  obtain ⟨z, lo, ms, rel, o, es, ep, ho, hx, hdt, hes, _, hn⟩ := dt_of I.hok ha
  have l2 : kvs.length = ms.length := Paired.length rel
  have l1 : es.size = ms.length := size_of_entries hes
  refine Calls.call_function_entry PyProof.Rows.kind_sorted PyProof.Rows.plain_sorted PyProof.Rows.entry_sorted (PyProof.Rows.args_sorted1 _) ?_
  unfold Builtin.«sorted»
  refine wpAny_bind (m := checkCount "sorted" 1 1 _) (wpAny_pure ?_)
  refine wpAny_bind (PySem.W.kdu_collect (A := X.A.in1) (kdl_raw lo hx hdt) (I.ok.hd hc) ho (by omega) fun h' tk acc hk hacc => ?_)
  have la : acc.toList.length = (kvs.map (·.1)).length := by rw [Array.length_toList, hacc.1, List.length_map]; omega
  have each : PySem.W.EachIs (fun v (k : List L2.Key) => ∃ b, v = Value.ref b ∧ H b = some (.tup (k.map kV))) acc.toList (kvs.map (·.1)) := each_of la fun j v e => by
    obtain ⟨en, he, hv⟩ := hacc.2 j v (by rw [← Array.getElem?_toList]; exact e)
    have e1 := entry_at hes j
    rw [he] at e1
    cases hm : ms[j]? with
    | none => rw [hm] at e1; exact nomatch (show some en = none from e1)
    | some m =>
      rw [hm] at e1
      have e2 : en = entryOfKey (tupleKind (mixKind X.prog X.w)) m := Option.some.inj e1
      have look : ∀ {l : List (List L2.Key × V)} {n : List (List L2.Key × Addr × Value)} {j : Nat} {m : List L2.Key × Addr × Value}, KT H l n → n[j]? = some m → ∃ p, l[j]? = some p ∧ p.1 = m.1 ∧ H m.2.1 = some (.tup (p.1.map kV)) := by
        intro l n j m rr
        induction rr generalizing j with
        | nil => intro z; simp at z
        | cons hp _ ih =>
          intro z
          cases j with
          | zero => simp at z; subst z; exact ⟨_, rfl, hp.1, hp.2.1⟩
          | succ j =>
            obtain ⟨p, a1, a2⟩ := ih (by simpa using z)
            exact ⟨p, by simpa using a1, a2⟩
      obtain ⟨p, p1, p2, p3⟩ := look rel hm
      exact ⟨p.1, by rw [List.getElem?_map, p1] <;> rfl, m.2.1, by rw [hv, e2] <;> rfl, p3⟩
  have I1 : Inv X pins σ H { s with heap := h', toks := tk } := I.kept hk
  refine wpAny_bind (wpAny_newList ?_ (by rw [la, List.length_map]; exact z))
  have hoL : (h'.push (seqObj "list" acc.toList.toArray 0)).get? h'.objs.size = some (seqObj "list" acc.toList.toArray 0) := Heap.get?_push_size _ rfl
  have kb : ∀ b o, h'.get? b = some o → (h'.push (seqObj "list" acc.toList.toArray 0)).get? b = some o := fun b o e => Heap.get?_push_of_some _ e
  show wpAny _ _ _ _ _ { s with heap := h'.push (seqObj "list" acc.toList.toArray 0), toks := tk }
  refine wpAny_bind (wpAny_holding (PySem.W.list_sort_data (s := { s with heap := h'.push (seqObj "list" acc.toList.toArray 0), toks := tk }) (enc := tkD) (R := fun v (k : List L2.Key) => ∃ b, v = Value.ref b ∧ H b = some (.tup (k.map kV))) hoL each ?_ ?_ ?_ (by rw [List.length_map]; exact z) ?_ fun out lo' eo => ?_))
  · refine each.mono fun v k hv => ?_
    obtain ⟨b, rfl, hb⟩ := hv
    obtain ⟨_, its, rv, o', h1, h2, n, h3⟩ := (show ObjOk X.prog X.w H h' b (.tup (k.map kV)) from I1.hok b _ hb)
    exact ⟨[], Reads.tuple (kb _ _ h1) h2 h3 (reads_key rv), by simp⟩
  · intro d hd e he
    obtain ⟨k, hk', rfl⟩ := List.mem_map.mp hd
    obtain ⟨l, hl', rfl⟩ := List.mem_map.mp he
    show PySem.W.alike (.tuple (k.map kD)) (.tuple (l.map kD)) = true
    rw [PySem.W.alike]
    exact al k hk' l hl'
  · refine .inl fun d hd => ?_
    obtain ⟨k, hk', rfl⟩ := List.mem_map.mp hd
    cases k with
    | nil => exact absurd rfl (ne _ hk')
    | cons x r => exact ⟨_, _, rfl⟩
  · intro k _
    have e : (tkD k).depth ≤ 1 := by
      unfold tkD
      rw [PyData.depth, depth_key k]
      omega
    have e2 : X.A.in1.units = X.A.units + 1 := rfl
    omega
  · obtain ⟨bs, rfl, pr⟩ := refs_of eo
    obtain ⟨e', he'⟩ := PyProof.Rows.sortedHeap_at (vs := acc.toList) (out := (List.toArray (bs.map Value.ref))) hoL
    have lb : bs.length = kvs.length := by
      rw [List.length_map, List.length_map] at lo'
      exact lo'
    have hlen : (bs.map V.ref).length ≤ sizeLine := by rw [List.length_map, lb]; exact z
    refine wpAny_pure ⟨_, rfl, .ref h'.objs.size, upd H h'.objs.size (.lst (bs.map V.ref)), I1.laid (t' := tk) (fun b u e => ?_) (Nat.le_refl _)
      (show ObjOk X.prog X.w _ _ _ (.lst (bs.map V.ref)) from ⟨hlen, bs.map Value.ref, e', vals_refs bs, he'⟩), rfl, q _ bs (I1.hok.fresh (Nat.le_refl _)) pr⟩
    have hb : b < h'.objs.size := Heap.lt_size e
    rw [PyProof.Rows.sortedHeap_old (Nat.ne_of_lt hb) (Heap.lt_size (kb _ _ e))]
    exact kb _ _ e
end
end Y
/-! part A2 -/
/-! A dict comprehension whose keys are tuples. -/
namespace Y
open PySem L2 PySem.Spec PyProof.Rows
theorem put_tk {X : Cx} {pins : List (Addr × Obj)} {σ : L2.St} {H : Hp} {s : Shared} {E : Value → Shared → Prop} {D b : Addr} {kvs : List (List L2.Key × V)} {k : List L2.Key} {v : V} {u r : Value} {Q : Unit → Shared → Prop}
    (hu : X.A.units + 1 < cLine) (I : Inv X pins σ H s) (hD : H D = some (.dT kvs)) (hb : H b = some (.tup (k.map kV))) (hz : kvs.length < sizeLine)
    (ry : RelV (.ref b) u) (rv : RelV v r) (h : ∀ s', Inv X pins σ (upd H D (.dT (putK kvs k v))) s' → Q () s') : wpAny (model X.prog X.w) X.A (dictSet D u r) Q E s := by
  cases (show u = Value.ref b from ry)
  obtain ⟨z, hd, xs, rel, dd⟩ := dt_of I.hok hD
  have hl : (putK kvs k v).length ≤ sizeLine := by
    have := length_putK kvs k v
    omega
  refine wpAny_dictSet_heap (hsz := by rw [← Paired.length rel]; exact z) (show (tupleKind (mixKind X.prog X.w)).room X.A from Nat.lt_of_succ_lt hu) (key_of I.hok hb) dd fun h' dd' hs => h _ ?_
  obtain ⟨q, es, ep, hq, h2, h3, h4, _, h5⟩ := dd'
  refine d_write I (by rw [hD]; exact True.intro) hs ⟨q, hq⟩ ⟨hl, hd, _, (rel.put k hb rv).keeps fun c ys ec => ?_, q, es, ep, hq, h2, h3, h4, h5⟩
  rw [upd_ne (ne_of ec hD (fun z => nomatch z))]
  exact ec
section
variable {X : Cx}
def tDq (wi : TI) (g : TG) (tt : TT) (tk tv : TE) (vs : List Nat) : TE := fun σ H Q => wi σ H fun J H1 => ∀ D, H1 D = none → ∃ W : Nat → Nat → Hp → Prop, (∃ m, W 0 m (upd H1 D (.dT []))) ∧ ∀ i m H, W i m H →
  (J.stop i H ∧ Q (.ref D) H) ∨ (J.go i H ∧ ∃ Nx : Hp → Prop, (∀ H', Nx H' → ∃ m', m' < m ∧ W (i + 1) m' H') ∧ ∀ x H', J.yld i H x H' → g x (wipe σ vs) H' fun σ2 H2 => wipe σ2 vs = wipe σ vs ∧ tt σ2 H2 fun b H3 =>
    if b = true then tk σ2 H3 fun y H4 => tv σ2 H4 fun z H5 => ∃ (kvs : List (List L2.Key × V)) (k : List L2.Key) (b : Addr), y = .ref b ∧ H5 b = some (.tup (k.map kV)) ∧ H5 D = some (.dT kvs) ∧ kvs.length < sizeLine ∧ Nx (upd H5 D (.dT (putK kvs k z))) else Nx H3)
theorem dq_core {pins : List (Addr × Obj)} {s : Shared} {σ : L2.St} {H : Hp} {Q : VK} {kx vx tg iter : Expr} {ifs : List Expr} {scope : Scope} {own : List (Str × Nat)} {pos pos' : Pos} {wi : TI} {g : TG} {tt : TT} {tk tv : TE} {use : Option (Value → Sem Unit)} {Qf : Value → Shared → Prop}
    (hu : X.A.units + 1 < cLine) (hc : X.calm = true) (hN : X.N.Nodup) (I : Inv X pins σ H s) (hi : PI X tg iter wi) (ok : BlkOk X.N X.env.scope scope own)
    (hg : ∀ (s : Shared) (H : Hp) (C : Addr) (cl : List (Str × Addr)) (fp : List Addr), PG (X.blk s H scope (compEnvC scope cl C X.env) fp) tg g) (ht : ∀ (s : Shared) (H : Hp) (C : Addr) (cl : List (Str × Addr)) (fp : List Addr), PTs (X.blk s H scope (compEnvC scope cl C X.env) fp) ifs tt)
    (hk : ∀ (s : Shared) (H : Hp) (C : Addr) (cl : List (Str × Addr)) (fp : List Addr), PE (X.blk s H scope (compEnvC scope cl C X.env) fp) kx tk)
    (he : ∀ (s : Shared) (H : Hp) (C : Addr) (cl : List (Str × Addr)) (fp : List Addr), PE (X.blk s H scope (compEnvC scope cl C X.env) fp) vx tv) (hs : ∀ x, foldedSetIterable iter X.env x = pure x)
    (h : tDq wi g tt tk tv (own.map (·.2)) σ H Q)
    (hRR : ∀ D C s' m H', Inv X pins σ H' s' → Q (.ref D) H' → s'.heap.Ns C m → FpOk X pins H' C → compPost (model X.prog X.w) X.A X.xe use Qf (.ref D) C (.ok .next) s') :
    wpAny (model X.prog X.w) X.A (comprehension (.DictComp kx vx [⟨tg, iter, ifs, 0⟩] scope pos) scope X.env pos' newDict false (eval iter X.env) use) Qf X.xe s := by
  have hfr : ∀ y ∈ scope.names, y.2 = .free → ∃ c, X.env.cells.lookup y.1 = some c := fun y hy e => by
    rcases ok.free y hy e with k | k
    · exact I.ok.has _ (.inl k)
    · exact I.ok.has _ (.inr k)
  refine wpAny_comprehension_free (use := use) rfl hs (closure_ok hfr) ok.kind (fun y hy e => by rw [ok.uniq y hy, e])
    (thn (hi.run pins s σ H _ I h) fun xv s1 hx => thn hx fun itv s2 h2 => ?_)
  obtain ⟨it, fp, tn, J, H2, e, I2, T, sa2, f2, q⟩ := h2
  subst e
  refine wpAny_newObj_type (newEnv_comp ?_)
  generalize hD : s2.heap.objs.size = D
  have hDnone : H2 D = none := I2.hok.fresh (Nat.le_of_eq hD)
  obtain ⟨W, ⟨m0, w0⟩, each⟩ := q D hDnone
  -- the new list
  generalize hs3 : ({ s2 with heap := s2.heap.push { cls := .type "dict", data := .dict #[] } } : Shared) = s3
  have I3 : Inv X pins σ (upd H2 D (.dT [])) s3 := by
    rw [← hs3]
    refine I2.laid (t' := s2.toks) (fun b o e => Heap.get?_push_of_some _ e) (Nat.le_of_eq hD) ?_
    rw [← hD]
    exact dt_empty s2.heap I2.big
  have h3 : s3.heap = s2.heap.push { cls := .type "dict", data := .dict #[] } := by rw [← hs3]
  have small : ∀ b ∈ fp, b < s2.heap.objs.size := fun b hb => by
    obtain ⟨o, e, _⟩ := T.obj _ _ sa2 b hb
    exact Heap.lt_size e
  have f3 : ∀ b ∈ fp, FpOk X pins (upd H2 D (.dT [])) b ∧ b < s3.heap.objs.size := fun b hb => by
    have hlt := small b hb
    refine ⟨⟨?_, (f2 b hb).2⟩, by rw [h3, Heap.size_push]; exact Nat.lt_succ_of_lt hlt⟩
    rw [upd_ne (by rw [← hD]; exact Nat.ne_of_lt hlt)]
    exact (f2 b hb).1
  have sa3 : tn 0 s3.heap := T.keep _ _ _ sa2 fun b _ o e => by rw [h3]; exact Heap.get?_push_of_some _ e
  have I4 := block_start I3 ok hN f3
  have ptg := hg s3 (upd H2 D (.dT [])) s3.heap.objs.size (cellsFrom (s3.heap.objs.size + 1) scope.names (cloFrom X.env.cells scope.names [])) fp
  have ptt := ht s3 (upd H2 D (.dT [])) s3.heap.objs.size (cellsFrom (s3.heap.objs.size + 1) scope.names (cloFrom X.env.cells scope.names [])) fp
  have pkey := hk s3 (upd H2 D (.dT [])) s3.heap.objs.size (cellsFrom (s3.heap.objs.size + 1) scope.names (cloFrom X.env.cells scope.names [])) fp
  have pval := he s3 (upd H2 D (.dT [])) s3.heap.objs.size (cellsFrom (s3.heap.objs.size + 1) scope.names (cloFrom X.env.cells scope.names [])) fp
  show codeAny _ _ (.compStart (.DictComp kx vx [⟨tg, iter, ifs, 0⟩] scope pos) 0 (.ref it) (.ref D) (compEnvC scope (cellsFrom (s3.heap.objs.size + 1) scope.names (cloFrom X.env.cells scope.names [])) s3.heap.objs.size X.env)) (compPost (model X.prog X.w) X.A X.xe use Qf (.ref D) s3.heap.objs.size) { s3 with heap := pushCells (s3.heap.push { cls := .type "dict", data := .dict #[] }) scope.names }
  have fpn : ∀ b ∈ fp, (upd H2 D (.dT [])) b = none := fun b hb => (f3 b hb).1.1
  generalize hcenv : compEnvC scope (cellsFrom (s3.heap.objs.size + 1) scope.names (cloFrom X.env.cells scope.names [])) s3.heap.objs.size X.env = cenv at I4 ptg ptt pkey pval ⊢
  have cL : cenv.locals = s3.heap.objs.size := by subst hcenv; rfl
  generalize hH3 : upd H2 D (.dT []) = H3 at I3 I4 ptg ptt pkey pval w0 fpn f3
  generalize hs4 : ({ s3 with heap := pushCells (s3.heap.push { cls := .type "dict", data := .dict #[] }) scope.names } : Shared) = s4 at I4 ⊢
  have sa4 : tn 0 s4.heap := T.keep _ _ _ sa3 fun b _ o e => by rw [← hs4]; exact pushCells_keeps _ _ _ _ (Heap.get?_push_of_some _ e)
  have still : ∀ {σ' : L2.St} {H' : Hp} {s' : Shared}, Inv (X.blk s3 H3 scope cenv fp) [] σ' H' s' → (∀ b ∈ fp, H' b = none) → ∀ b ∈ fp, FpOk (X.blk s3 H3 scope cenv fp) [] H' b := fun {σ' H' s'} I' hn b hb =>
    ⟨hn b hb, (I'.ok.exf b hb).1, I'.ok.exfs b hb, .inl hb, fun x c e => (I'.ok.exf b hb).2 x c e, fun p hp => absurd (show p ∈ ([] : List (Addr × Obj)) ++ [] from hp) (by simp)⟩
  have run : codeAny (model X.prog X.w) X.A (.compLoop (.DictComp kx vx [⟨tg, iter, ifs, 0⟩] scope pos) 0 (.ref it) (.ref D) cenv) (compPost (model X.prog X.w) X.A X.xe use Qf (.ref D) s3.heap.objs.size) s4 := by
    refine compLoop_anyD (fun n s' => ∃ i H', Inv (X.blk s3 H3 scope cenv fp) [] (wipe σ (own.map (·.2))) H' s' ∧ tn i s'.heap ∧ (∀ b ∈ fp, H' b = none) ∧ W i n H') ?_ m0 ⟨0, H3, I4, sa4, fpn, w0⟩
    rintro n s5 ⟨i, H5, I5, sa5, n5, w5⟩
    rcases each i n H5 w5 with ⟨atEnd, qq⟩ | ⟨gone, Nx, hNx, onward⟩
    · have fin1 := T.done (X.blk s3 H3 scope cenv fp) rfl rfl rfl hc i [] s5 _ H5 (fun _ _ => False) I5 (still I5 n5) sa5 atEnd
      refine thnF fin1 fun r s6 ⟨hr, I6⟩ => ?_
      subst hr
      -- back in the def's context
      have I7 : Inv X pins σ H5 s6 := I3.call' (ch := fp) I6.os I6.base I6.hok I6.bare fun b hb => ⟨(f3 b hb).1.2.2.2.1, (f3 b hb).1.2.1, (f3 b hb).1.2.2.2.2.1, (f3 b hb).1.2.2.2.2.2⟩
      have nC : H5 s3.heap.objs.size = none := by
        have z : H5 cenv.locals = none := I6.free
        rw [cL] at z
        exact z
      obtain ⟨m, hn, _⟩ := I6.loc
      have hn : s6.heap.Ns cenv.locals m := hn
      rw [cL] at hn
      exact hRR D s3.heap.objs.size s6 m H5 I7 qq hn (I3.fpOk (Nat.le_refl _) nC)
    · have nxt1 := T.item (X.blk s3 H3 scope cenv fp) rfl rfl rfl hc i [] s5 _ H5 (fun _ _ => False) I5 (still I5 n5) sa5 gone
      refine thnF nxt1 fun r s6 ⟨u, hr, h6⟩ => ?_
      subst hr
      refine thnF h6 fun _ s7 ⟨x, H7, I7, r7, y7, sa7, n7⟩ => ?_
      have I7' := I7.pinned (still I7 n7) (T.obj _ _ sa7)
      refine thnF (ptg.run _ s7 _ H7 x u _ I7' r7 (onward x H7 y7)) fun _ s8 ⟨σ8, H8, I8, hw8, q8⟩ => ?_
      refine thnF (ptt.run _ s8 σ8 H8 _ I8 q8) fun b s9 ⟨H9, I9, q9⟩ => ?_
      -- the turn's end
      have close : ∀ {s' : Shared} {H' : Hp}, Inv (X.blk s3 H3 scope cenv fp) ([] ++ pinsAt fp s7.heap) σ8 H' s' → Nx H' → ∃ m, m < n ∧ ∃ i H', Inv (X.blk s3 H3 scope cenv fp) [] (wipe σ (own.map (·.2))) H' s' ∧ tn i s'.heap ∧ (∀ b ∈ fp, H' b = none) ∧ W i m H' := fun {s' H'} I' nx => by
        obtain ⟨m', hm, w'⟩ := hNx H' nx
        have pin' : ∀ b ∈ fp, ∀ o, s7.heap.get? b = some o → s'.heap.get? b = some o ∧ H' b = none := fun b hb o e =>
          let z := I'.pin (b, o) (List.mem_append_right _ (List.mem_append_right _ (mem_pinsAt hb e)))
          ⟨z.1, z.2.1⟩
        have hl : (wipe σ (own.map (·.2))).length = σ8.length := by rw [← hw8, wipe_length]
        refine ⟨m', hm, i + 1, H', (I'.unpinned (pins := [])).weak hl (fun j v e => ?_), T.keep _ _ _ sa7 fun b hb o e => (pin' b hb o e).1, fun b hb => ?_, w'⟩
        · rw [← hw8] at e
          exact (wipe_some e).1
        · obtain ⟨o, e, _⟩ := T.obj _ _ sa7 b hb
          exact (pin' b hb o e).2
      cases b with
      | false =>
        simp only [Bool.false_eq_true, if_false] at q9 ⊢
        exact close I9 q9
      | true =>
        simp only [if_true] at q9 ⊢
        refine thnF (pkey.run _ s9 σ8 H9 _ I9 q9) fun z s10 ⟨yk, H10, I10, r10, q10⟩ => ?_
        refine thnF (pval.run _ s10 σ8 H10 _ I10 q10) fun z2 s11 ⟨yv, H11, I11, r11, kvs, k, kb, ek, hkb, hD11, hz11, nx⟩ => ?_
        subst ek
        exact put_tk (X := X.blk s3 H3 scope cenv fp) hu I11 hD11 hkb hz11 r10 r11 fun s12 I12 => close I12 nx
  exact codeAny_compStart_dict run (T.self X.A 0 _ _ _ sa4 run)
/-- as a value -/
theorem pe_dq {kx vx tg iter : Expr} {ifs : List Expr} {scope : Scope} {own : List (Str × Nat)} {pos : Pos} {wi : TI} {g : TG} {tt : TT} {tk tv : TE} (hu : X.A.units + 1 < cLine) (hc : X.calm = true) (hN : X.N.Nodup) (hi : PI X tg iter wi) (ok : BlkOk X.N X.env.scope scope own)
    (hg : ∀ (s : Shared) (H : Hp) (C : Addr) (cl : List (Str × Addr)) (fp : List Addr), PG (X.blk s H scope (compEnvC scope cl C X.env) fp) tg g) (ht : ∀ (s : Shared) (H : Hp) (C : Addr) (cl : List (Str × Addr)) (fp : List Addr), PTs (X.blk s H scope (compEnvC scope cl C X.env) fp) ifs tt)
    (hk : ∀ (s : Shared) (H : Hp) (C : Addr) (cl : List (Str × Addr)) (fp : List Addr), PE (X.blk s H scope (compEnvC scope cl C X.env) fp) kx tk)
    (he : ∀ (s : Shared) (H : Hp) (C : Addr) (cl : List (Str × Addr)) (fp : List Addr), PE (X.blk s H scope (compEnvC scope cl C X.env) fp) vx tv) (hs : ∀ x, foldedSetIterable iter X.env x = pure x := by intro _; rfl) :
    PE X (.DictComp kx vx [⟨tg, iter, ifs, 0⟩] scope pos) (tDq wi g tt tk tv (own.map (·.2))) := by
  refine ⟨fun pins s σ H Q I h => ?_⟩
  rw [arm_eval_DictComp]
  refine dq_core hu hc hN I hi ok hg ht hk he hs h fun D C s' m H' I' q hn f => ⟨m, hn, fun h'' sb => ?_⟩
  obtain ⟨f0, f1, f2, f3, f4, f5⟩ := f
  exact ⟨.ref D, H', I'.turned (t' := s'.toks) (fun b o hb e => (sb.2 b hb).trans e) f0 f1 f3 f4 f5, rfl, q⟩
/-- over a tuple that stays -/
theorem dq_tup {K : PySem.W.Frag} {a : Addr} {xs : List V} {g : TG} {tt : TT} {tk tv : TE} {vs : List Nat} {σ : L2.St} {H1 : Hp} {D : Addr} {Qd : Hp → Prop} (Pv : Nat → Hp → Prop) (h0 : Pv 0 (upd H1 D (.dT []))) (hl : ∀ i H, i ≤ xs.length → Pv i H → SqT K H a xs)
    (hs : ∀ i x H, xs[i]? = some x → Pv i H → g x (wipe σ vs) H fun σ2 H2 => wipe σ2 vs = wipe σ vs ∧ tt σ2 H2 fun b H3 =>
      if b = true then tk σ2 H3 fun y H4 => tv σ2 H4 fun z H5 => ∃ (kvs : List (List L2.Key × V)) (k : List L2.Key) (b : Addr), y = .ref b ∧ H5 b = some (.tup (k.map kV)) ∧ H5 D = some (.dT kvs) ∧ kvs.length < sizeLine ∧ Pv (i + 1) (upd H5 D (.dT (putK kvs k z))) else Pv (i + 1) H3) (hd : ∀ H, Pv xs.length H → Qd H) :
    ∃ W : Nat → Nat → Hp → Prop, (∃ m, W 0 m (upd H1 D (.dT []))) ∧ ∀ i m H, W i m H →
      ((Itt K a).stop i H ∧ Qd H) ∨ ((Itt K a).go i H ∧ ∃ Nx : Hp → Prop, (∀ H', Nx H' → ∃ m', m' < m ∧ W (i + 1) m' H') ∧ ∀ x H', (Itt K a).yld i H x H' → g x (wipe σ vs) H' fun σ2 H2 => wipe σ2 vs = wipe σ vs ∧ tt σ2 H2 fun b H3 =>
        if b = true then tk σ2 H3 fun y H4 => tv σ2 H4 fun z H5 => ∃ (kvs : List (List L2.Key × V)) (k : List L2.Key) (b : Addr), y = .ref b ∧ H5 b = some (.tup (k.map kV)) ∧ H5 D = some (.dT kvs) ∧ kvs.length < sizeLine ∧ Nx (upd H5 D (.dT (putK kvs k z))) else Nx H3) := by
  refine ⟨fun i m H => m = xs.length - i ∧ i ≤ xs.length ∧ Pv i H, ⟨xs.length, by simp, Nat.zero_le _, h0⟩, ?_⟩
  rintro i m H ⟨rfl, hi, p⟩
  have q := hl i H hi p
  by_cases hlt : i < xs.length
  · refine .inr ⟨⟨xs, xs[i], q, by simp [hlt]⟩, Pv (i + 1), fun H' p' => ⟨xs.length - (i + 1), by omega, rfl, hlt, p'⟩, fun x H' y => ?_⟩
    obtain ⟨e, y⟩ := y
    subst e
    exact hs i x _ (y xs q) p
  · have e : i = xs.length := by omega
    subst e
    exact .inl ⟨⟨xs, q, Nat.le_refl _⟩, hd H p⟩
end
end Y
/-! part A3 -/
/-! An own error over an own base over ValueError, whose __init__ says super().__init__(a text) and stores its argument as "at". -/
namespace PySem
namespace ErX
open PySem.W PySem.Calls PyProof.Rows PySem.HandSPX
def iA (p1 p2 : Pos) : Arguments := { posonlyargs := [], args := [{ arg := "self", annotation := none, pos := p1 }, { arg := "at", annotation := none, pos := p2 }], vararg := none, kwonlyargs := [], kw_defaults := [], kwarg := none, defaults := [] }
def iB (msg : Str) (q1 q2 q3 q4 q5 q6 r1 r2 r3 r4 : Pos) (kk : Nat) : List Stmt :=
  [.Expr (.Call (.Attribute (.Call (.Name "super" q1) [] [] q2) "__init__" q3) [.Constant (.str msg) kk q4] [] q5) q6, .Assign [.Attribute (.Name "self" r1) "at" r2] (.Name "at" r3) r4]
def iS : Scope := { kind := .function, names := [(PySem.Str.ofString "self", .local), (PySem.Str.ofString "at", .local), (PySem.Str.ofString "__class__", .free), (PySem.Str.ofString "super", .globalImplicit)], isGenerator := false, isCoroutine := false, more := [] }
def HeOk (msg : Str) (q1 q2 q3 q4 q5 : Pos) (kk : Nat) : Prop := ∃ pl : Sem Bool, ∀ env, eval (.Call (.Attribute (.Call (.Name "super" q1) [] [] q2) "__init__" q3) [.Constant (.str msg) kk q4] [] q5) env = (do
      let ov ← attributeBase (.Call (.Name "super" q1) [] [] q2) "__init__" env (eval (.Call (.Name "super" q1) [] [] q2) env)
      standAt q3.atName
      let (f, first) ← holding [ov] (getMethod ov "__init__" pl)
      callWith q5 f first (backTo q5 (starEach [.Constant (.str msg) kk q4] env)) [])
/-- what the written part says of the class nm at C; its __init__ at fI, with the cell cc -/
structure ErrTxt (prog : Program) (K : Frag) (mg : Str → Option Value) (nm : Str) (C fI cc cda : Addr) : Prop where
  gC : mg nm = some (.ref C)
  cls : ∃ n q N bs bm sn sub ab col dd k0 k1 k2 k3 k5, K.lookup C = some (excClassObj n q C N bs bm true sn sub ab col dd k0 k1 k2 k3 k5 "ValueError.__new__") ∧ refsVE bm = true
  sa : findIn K (.ref C) "__setattr__" = some (some (.builtin "object.__setattr__"))
  ga : findIn K (.ref C) "__getattribute__" = some (some (.builtin "BaseException.__getattribute__"))
  gg : findIn K (.ref C) "__getattr__" = some none
  noN : findIn K (.ref C) "at" = some none
  iC : findIn K (.ref C) "__init__" = some (some (.ref fI))
  tC : typeIn K (.ref fI) = some (.type "function")
  kC : keepIn K (.ref C) = true
  exC : subIn K (.ref C) (.type "BaseException") = some true
  veC : subIn K (.ref C) (.type "ValueError") = some true
  tyC : typeIn K (.ref C) = some (.type "type")
  hdC : hasDictIn K C = true
  suC : ks_superIn K C C "__init__" = some (some (.builtin "ValueError.__init__"))
  me : mroIn K C (.ref C) = some true
  ns : nsIn K mainGlobals "super" = some none
  no : nsIn K cStatics "thirdparty.any" = some none
  fn : ∃ (qn : Str) (oc : Value) (od : Option Addr) (doc pm : Value) (an : Option Addr) (ct : Value) (osl : Array (Option Value)) (msg : Str) (p1 p2 q1 q2 q3 q4 q5 q6 r1 r2 r3 r4 : Pos) (kk : Nat),
    K.lookup fI = some ⟨oc, od, .func (ksFn "__init__" qn (iA p1 p2) (iB msg q1 q2 q3 q4 q5 q6 r1 r2 r3 r4 kk) iS .none .none doc pm an (.ref cda) ct cc), osl⟩ ∧ codeIn K (.ref cda) qn = true ∧ HeOk msg q1 q2 q3 q4 q5 kk
  cell : ∃ (cl : Value) (cld : Option Addr) (csl : Array (Option Value)), K.lookup cc = some ⟨cl, cld, .cell (some (.ref C)), csl⟩
  code : ∃ (ccl : Value) (cdd : Option Addr) (vs : Array Value) (ccs : Array (Option Value)) (file : Str) (tf : Tok), K.lookup cda = some ⟨ccl, cdd, .fields vs, ccs⟩ ∧ vs[2]? = some (.str file tf) ∧ ((prog.main.file : Str) == file) = true
  top : (prog.main.scope.names.lookup ("super" : Str)).isSome = false
theorem iS_cell : ∀ x ∈ iS.names, x.2 ≠ .cell := by decide +kernel
theorem iS_self : iS.names.lookup ("self" : Str) = some .local := by decide +kernel
theorem iS_at : iS.names.lookup ("at" : Str) = some .local := by decide +kernel
theorem iS_super : iS.names.lookup ("super" : Str) = some .globalImplicit := by decide +kernel
theorem iS_cls : iS.names.lookup ("__class__" : Str) = some .free := by decide +kernel
theorem iS_loc (a b : Value) : ∀ y ∈ [(("self" : Str), a), (("at" : Str), b)], iS.names.lookup y.1 = some .local := fun y hy => by
  rcases List.mem_cons.mp hy with rfl | hy
  · exact iS_self
  · rcases List.mem_cons.mp hy with rfl | hy
    · exact iS_at
    · cases hy
theorem one_size (v : Value) : [v].length ≤ sizeLine := by
  rw [sizeLine_eq]
  exact (by decide : 1 ≤ 16777216)
/-- what __init__ leaves of a fresh exception at x -/
structure InitEnd (h h' : Heap) (x C dx t1 : Addr) (v : Value) : Prop where
  keep : ∀ b o, b ≠ x → h.get? b = some o → h'.get? b = some o
  obj : h'.get? x = some { cls := .ref C, dict := some dx, data := .fields #[.ref t1, .none, .none, .none, .bool false, .none] }
  dbig : h.objs.size ≤ dx
  dne : dx ≠ x
  ns : h'.Ns1 dx (fun y => if y = "at" then some v else none)
section
variable {prog : Program} {w : World} {A : Around} {E : Value → Shared → Prop} {R : Result → Shared → Prop} {K : Frag} {mg mb : Str → Option Value} {nm : Str} {C fI cc cda : Addr}
theorem call_bwV {n q : Str} {N u e t0 : Addr} {bs bm : List Value} {sn : List Str} {sub : List Value} {ab : Bool} {col : Option Bool} {dd : Option Addr} {k0 k1 k2 k3 k5 : Option Value} {rest : List Value} {h : Heap} {g : Array GenState} {d : Drawn} {t : Nat} {os : OsState} {Q : Value → Shared → Prop}
    (hC : h.get? C = some (excClassObj n q C N bs bm true sn sub ab col dd k0 k1 k2 k3 k5 "ValueError.__new__")) (he : h.get? e = some (excO C t0)) (hu : h.get? u = some (kxs_mw "ValueError.__init__" e)) (hrest : rest.length ≤ sizeLine)
    (hq : ∀ h' t1, (∀ b o, b ≠ e → h.get? b = some o → h'.get? b = some o) → h'.get? e = some (excO C t1) → Q .none ⟨h', g, d, t, os⟩) :
    wpAny (model prog w) A (call (.ref u) rest) Q E ⟨h, g, d, t, os⟩ := by
  refine wpAny_call (codeAny_of_tree ?_)
  show wpAny _ A.in1 (callAny (.ref u) ⟨rest, []⟩) _ _ _
  simp only [callAny]
  refine wpAny_bind (wpAny_load hu ?_)
  simp only [kxs_mw, show (Value.type "method-wrapper" == Value.type "method" || Value.type "method-wrapper" == Value.type "builtin_function_or_method" || Value.type "method-wrapper" == Value.type "method-wrapper") = true by decide, if_true]
  refine KFB.if_so (by decide) ?_
  refine wpAny_bind (check_bound_init F.excBase_ValueError.toExcCallFacts hC he rfl ?_)
  refine wpAny_bind (wpAny_pure (wpAny_pure ?_))
  refine ⟨plainId_quiet F.excBase_ValueError.init.plain _, codeAny_builtin F.excBase_ValueError.initEntry ?_⟩
  refine exc_init_tree (cls := .ref C) (t0 := t0) (dv := none) (c2 := .none) (c3 := .none) (b4 := .bool false) he hrest fun h' k e' _ => hq h' h.objs.size k e'
theorem err_init (T : ErrTxt prog K mg nm C fI cc cda) {s : Shared} {x t0 : Addr} {v : Value} (X : K.In s.heap) (hlim : s.heap.NoLimit) (G : s.heap.Ns mainGlobals mg) (B : s.heap.Ns builtinsNs mb) (hB : mb "super" = some (.type "super"))
    (hx : s.heap.get? x = some (excO C t0)) (hnx : K.lookup x = none) (hroom : A.depth < recursionLimit)
    (hq : ∀ h' tk dx t1, InitEnd s.heap h' x C dx t1 v → R (.ok (.ret .none)) { s with heap := h', toks := tk }) :
    codeAny (model prog w) A (.call (.ref fI) ⟨[.ref x, v], []⟩) R s := by
  obtain ⟨qn, oc, od, doc, pm, an, ct, osl, msg, p1, p2, q1, q2, q3, q4, q5, q6, r1, r2, r3, r4, kk, ho, hcd, pl, hhe⟩ := T.fn
  obtain ⟨n, q, N, bs, bm, sn, sub, ab, col, dd, k0, k1, k2, k3, k5, hC, hbm⟩ := T.cls
  obtain ⟨cl, cld, csl, hcell⟩ := T.cell
  obtain ⟨ccl, cdd, vs, ccs, file, tf, hcode, hvs, hfile⟩ := T.code
  have hcl : clsIn K C = some { name := n, bases := bs, mro := .ref C :: bm, ns := N, qualname := q, hasDict := true, slotNames := sn, subclasses := sub, abstract := ab, collection := col, hasDel := false } := by unfold clsIn; rw [hC] <;> rfl
  have hxC : x ≠ C := fun z => by rw [z, hC] at hnx; cases hnx
  refine ks_codeAny_call_defAt (args := ⟨[.ref x, v], []⟩) (fd := ksFn "__init__" qn (iA p1 p2) (iB msg q1 q2 q3 q4 q5 q6 r1 r2 r3 r4 kk) iS .none .none doc pm an (.ref cda) ct cc) (body := iB msg q1 q2 q3 q4 q5 q6 r1 r2 r3 r4 kk) (binds := [("self", .ref x), ("at", v)])
    hroom (X _ _ ho) rfl hlim (codeRec_of X hcd) rfl (BindsTo.of_eq (by first | rfl | with_unfolding_all rfl)) iS_cell (iS_loc _ _) (fun h₁ hns hk => ?_) rfl rfl rfl
  show _root_.PySem.wpAt (model prog w) _ (.func (iB msg q1 q2 q3 q4 q5 q6 r1 r2 r3 r4 kk) (ksEnv qn iS s.heap.objs.size fI (.ref cda) cc)) (execs (iB msg q1 q2 q3 q4 q5 q6 r1 r2 r3 r4 kk) (ksEnv qn iS s.heap.objs.size fI (.ref cda) cc)) _ _ _
  have X₁ : K.In h₁ := X.keeps hk
  have hx₁ := hk _ _ hx
  have hself : (fun y => ([(("self" : Str), Value.ref x), (("at" : Str), v)] : List (Str × Value)).reverse.lookup y) ("self" : Str) = some (.ref x) := by
    show List.lookup ("self" : Str) [(("at" : Str), v), (("self" : Str), Value.ref x)] = _
    simp only [List.lookup, show (("self" : Str) == "at") = false by decide +kernel, show (("self" : Str) == "self") = true by decide +kernel]
  have hatv : (fun y => ([(("self" : Str), Value.ref x), (("at" : Str), v)] : List (Str × Value)).reverse.lookup y) ("at" : Str) = some v := by
    show List.lookup ("at" : Str) [(("at" : Str), v), (("self" : Str), Value.ref x)] = _
    simp only [List.lookup, show (("at" : Str) == "at") = true by decide +kernel]
  refine ks_wpAt_execs_cons (ks_wpAt_Expr_any (ks_wpAt_MethodCall (pl := pl) ?_ (hhe _)))
  obtain ⟨oD, hD1, hD2⟩ : ∃ oD, h₁.get? C = some oD ∧ oD.data = .cls { name := n, bases := bs, mro := .ref C :: bm, ns := N, qualname := q, hasDict := true, slotNames := sn, subclasses := sub, abstract := ab, collection := col, hasDel := false } := ⟨_, X₁ _ _ hC, rfl⟩
  refine ks_wpAt_super_base (env := ksEnv qn iS s.heap.objs.size fI (.ref cda) cc) iS_super iS_cls (by decide +kernel) rfl (X₁ _ _ ho) rfl rfl rfl (X₁ _ _ hcode) rfl hvs hfile T.top ?_
  refine ks_loadName_global rfl iS_super (loadGlobal_builtin (env := ksEnv qn iS s.heap.objs.size fI (.ref cda) cc) (G.keeps hk) (mg_none_of X G T.ns) (B.keeps hk) hB ⟨rfl, ?_⟩)
  refine wpAny_loadName_free rfl iS_cls rfl ⟨_, X₁ _ _ hcell, rfl⟩ ?_
  refine wpAny_loadName_local rfl iS_self hns hself ?_
  refine ks_wpAny_isType_cls hD1 hD2 ⟨rfl, ?_⟩
  refine ks_wpAny_call_super hD1 hD2 hx₁ rfl (fun c e => by cases e) (looks_mroIn X₁ T.me) (fun h2 e2 k2 => ?_)
  have k02 : ∀ b o, s.heap.get? b = some o → h2.get? b = some o := fun b o e => k2 b o (hk b o e)
  have X2 : K.In h2 := X.keeps k02
  have hx2 := k02 _ _ hx
  have I2 : InstAt h2 x (excO C t0) C none := ⟨hx2, rfl, rfl, trivial⟩
  have suC : alongIn K "__init__" (((Value.ref C :: bm).dropWhile (· != .ref C)).drop 1) = some (some (.builtin "ValueError.__init__")) := by
    have z := T.suC
    unfold ks_superIn at z
    rw [hcl] at z
    exact z
  refine kxs_getMethod kxs_ValueError e2 (looks_opaque X2 T.no) (l₀ := .ref C :: bm) (fun A Q E s k q => wpAny_bind ((looks_clsIn X2 hcl) A _ E s k (wpAny_pure q))) rfl X2 suC (I2.type.andThen (looks_subIn X2 T.veC)) hxC (by decide +kernel) ?_
  refine kxs_callWith (i := "ValueError.__init__") (x := x) rfl (evalArgs_plain (Calls.spliced_cons (Calls.Constant_str (k := kk) (pos := q4) (Calls.spliced_nil ?_))))
  have hu3 : (h2.push (kxs_mw "ValueError.__init__" x)).get? h2.objs.size = some (kxs_mw "ValueError.__init__" x) := Heap.get?_push_at rfl rfl
  have k23 : ∀ b o, h2.get? b = some o → (h2.push (kxs_mw "ValueError.__init__" x)).get? b = some o := fun b o e => Heap.get?_push_of_some _ e
  refine ⟨hu3, call_bwV (k23 _ _ (X2 _ _ hC)) (k23 _ _ hx2) hu3 (one_size _) fun h4 t1 k4 hx4 => ?_⟩
  -- the store
  have nL : s.heap.objs.size ≠ x := Nat.ne_of_gt (Heap.lt_size hx)
  have X4 : K.In h4 := fun a o e => k4 a o (fun z => by rw [z, hnx] at e; cases e) (k23 _ _ (X2 _ _ e))
  obtain ⟨oL, esL, epL, hL, rL⟩ := id hns
  have hL4 : h4.get? s.heap.objs.size = some oL := k4 _ _ nL (k23 _ _ (k2 _ _ hL))
  have hns4 : h4.Ns s.heap.objs.size (fun y => ([(("self" : Str), Value.ref x), (("at" : Str), v)] : List (Str × Value)).reverse.lookup y) := ⟨oL, esL, epL, hL4, rL⟩
  refine ks_wpAt_execs_cons (ks_wpAt_Assign_Attr ?_)
  refine wpAt_of_wpAny (wpAny_Name (wpAny_loadName_local rfl iS_at hns4 hatv ?_) (by decide))
  refine wpAny_Name (wpAny_loadName_local rfl iS_self hns4 hself ?_) (by decide)
  refine set_plain X4 (ox := excO C t1) (od := none) ⟨hx4, rfl, rfl, trivial⟩ T.sa ?_
  refine HandSPX.exc_osa X4 hx4 hcl (show refsVE (.ref C :: bm) = true from hbm) rfl T.noN (fun h5 tk5 dx k5 dn dne hx5 hn5 => ?_)
  refine wpAt_of_wpAny (wpAny_execs_nil ?_)
  have big : s.heap.objs.size ≤ dx := Nat.le_of_lt (Nat.lt_of_lt_of_le (Heap.lt_size hL4) dn)
  exact hq h5 tk5 dx t1 ⟨fun b o hb e => k5 b o hb (k4 b o hb (k23 b o (k02 b o e))), hx5, big, dne, hn5⟩
end
end ErX
end PySem
/-! part A4 -/
/-! An own error made and raised, its field read; a try with several clauses, named or not. -/
namespace PySem
namespace ErX
open PySem.W PySem.Calls PyProof.Rows PySem.HandSPX
/-- a made error -/
structure Made (h h' : Heap) (e C d : Addr) (v : Value) : Prop where
  keep : ∀ b o, h.get? b = some o → h'.get? b = some o
  new : h.objs.size ≤ e
  obj : ∃ oe vs, h'.get? e = some oe ∧ oe.cls = .ref C ∧ oe.dict = some d ∧ oe.data = .fields vs ∧ vs[1]? = some .none
  dbig : h.objs.size ≤ d
  dne : d ≠ e
  ns : h'.Ns1 d (fun y => if y = "at" then some v else none)
section
variable {prog : Program} {w : World} {A : Around} {R : Result → Shared → Prop} {s : Shared} {K : Frag} {mg mb : Str → Option Value} {nm : Str} {C fI cc cda : Addr}
theorem err_made (T : ErrTxt prog K mg nm C fI cc cda) {v : Value} (X : K.In s.heap) (hlim : s.heap.NoLimit) (G : s.heap.Ns mainGlobals mg) (B : s.heap.Ns builtinsNs mb) (hB : mb "super" = some (.type "super")) (hroom : A.depth + 1 < recursionLimit)
    (hq : ∀ h' tk e d, Made s.heap h' e C d v → R (.ok (.ret (.ref e))) { s with heap := h', toks := tk }) :
    codeAny (model prog w) A (.call (.ref C) ⟨[v], []⟩) R s := by
  obtain ⟨n, q, N, bs, bm, sn, sub, ab, col, dd, k0, k1, k2, k3, k5, hC, hbm⟩ := T.cls
  obtain ⟨hp, g, dr, tk, os⟩ := s
  have k : ∀ b o, hp.get? b = some o → ((hp.push (kdv_tup [v])).push (excO C hp.objs.size)).get? b = some o := fun b o e => Heap.get?_push_of_some _ (Heap.get?_push_of_some _ e)
  have hget : ((hp.push (kdv_tup [v])).push (excO C hp.objs.size)).get? (hp.objs.size + 1) = some (excO C hp.objs.size) := by heap_get
  have hnx : K.lookup (hp.objs.size + 1) = none := by
    cases e : K.lookup (hp.objs.size + 1) with
    | none => rfl
    | some o =>
      have z : hp.get? (hp.objs.size + 1) = some o := X _ _ e
      exact absurd (Nat.lt_of_succ_lt (Heap.lt_size z)) (Nat.lt_irrefl _)
  refine call_own F.excBase_ValueError (fun X => refsVE_contains X bm hbm) (X _ _ hC) (looks_findIn X T.iC) (fun self => bind_fn X self T.tC) (one_size v) ?_
  refine err_init (s := ⟨(hp.push (kdv_tup [v])).push (excO C hp.objs.size), g, dr, tk, os⟩) T (X.keeps k) (hlim.keeps k) (G.keeps k) (B.keeps k) hB hget hnx ?_ fun h' tk' dx t1 ⟨k', hx, dn, dne, hns⟩ => ?_
  · show A.depth + 1 < recursionLimit
    exact hroom
  · have old : ∀ b o, hp.get? b = some o → h'.get? b = some o := fun b o e => k' b o (Nat.ne_of_lt (Nat.lt_succ_of_lt (Heap.lt_size e))) (k b o e)
    have z : hp.objs.size + 1 + 1 ≤ dx := by
      first
        | (simpa only [Heap.size_push] using dn)
        | exact dn
        | (have q := dn; rw [Heap.size_push, Heap.size_push] at q; exact q)
    exact ⟨rfl, hq h' tk' (hp.objs.size + 1) dx ⟨old, Nat.le_succ _, ⟨_, _, hx, rfl, rfl, rfl, rfl⟩, Nat.le_trans (Nat.le_trans (Nat.le_succ _) (Nat.le_succ _)) z, dne, hns⟩⟩
end
end ErX
end PySem
namespace Y
open PySem L2 PySem.Spec PyProof.Rows
theorem relO_at {v : V} {v' : Value} (r : RelV v v') (f : Str) : RelO (List.lookup f [(("at" : Str), v)]) (if f = "at" then some v' else none) := by
  by_cases hw : f = "at"
  · subst hw
    rw [if_pos rfl]
    have q : List.lookup ("at" : Str) [(("at" : Str), v)] = some v := by simp [List.lookup]
    rw [q]
    exact r
  · rw [if_neg hw]
    have qw : (f == ("at" : Str)) = false := by simpa using hw
    have q2 : List.lookup f [(("at" : Str), v)] = none := by simp [List.lookup, qw]
    rw [q2]
    trivial
section
variable {X : Cx} {nm : Str} {C fI cc cda : Addr}
/-- nm(e), an error -/
def tMkErr (C : Addr) (ta : TA) : L2.St → Hp → XK → Prop := fun σ H Q => ta σ H fun vs H1 => ∃ v, vs = [v] ∧ ∀ d, H1 d = none → Q (.ref C) (some d) (upd H1 d (.xd [(("at" : Str), v)]))
theorem pmk_err {a : Expr} {ta : TA} {p pos : Pos} {k : Nat} (T : PySem.ErX.ErrTxt X.prog X.K X.mg nm C fI cc cda) (hr : Room k X.A) (ha : PA X [a] ta) (hg : Gl X nm) (hdb : (nm == ("__debug__" : Str)) = false)
    (he : starEach (a :: []) X.env = (false, eval a X.env) :: starEach [] X.env := by rfl) (hpl : (backTo pos (starEach [] X.env)).any (·.1) = false := by rfl) :
    PMk X (.Call (.Name nm p) [a] [] pos) (tMkErr C ta) := by
  intro pins s σ H Q I h
  refine wpAny_Call_Name_kw (ld_glob I hg T.gC ?_ hdb)
  refine PySem.W.callWith_K (h₀ := X.base) I.ok.mod.kin T.kC (thn (ha.run pos pins s σ H _ I h) fun us s1 hh => ?_) he hpl
  obtain ⟨vs, H1, I1, r1, v, ev, q1⟩ := hh
  subst ev
  refine ⟨I1.kIn, ?_⟩
  cases r1 with
  | cons rv rn =>
    rename_i v' us'
    cases rn
    show wpAny _ _ (call (.ref C) [v']) _ _ _
    have hlim := I1.nolimit
    obtain ⟨mb, hmb, hbb⟩ := I1.mod.blt
    have G1 := I1.mod.glob.keeps I1.bk
    have B1 := hmb.keeps I1.bk
    obtain ⟨hp, g, dr, tk, os⟩ := s1
    refine wpAny_call (PySem.ErX.err_made T I1.kIn hlim G1 B1 ((hbb "super" (by decide)).trans (by decide +kernel)) (by have := hr.dp; omega) fun h' tk' e d M => ?_)
    show MkP X pins σ Q (.ref e) ⟨h', g, dr, tk', os⟩
    obtain ⟨oe, fv, hoe, hc, hd, hdat, h1⟩ := M.obj
    have hns := M.ns
    obtain ⟨G', g1, g2⟩ := restrict h' fun b => decide (b ≠ e)
    have gk : ∀ b, b ≠ e → G'.get? b = h'.get? b := fun b hb => g1 b (decide_eq_true hb)
    have ge : G'.get? e = none := g2 e (by simp)
    have old : ∀ b o, hp.get? b = some o → G'.get? b = some o := fun b o q => (gk b (Nat.ne_of_lt (Nat.lt_of_lt_of_le (Heap.lt_size q) M.new))).trans (M.keep b o q)
    have ob : ObjOk X.prog X.w (upd H1 d (.xd [(("at" : Str), v)])) G' d (.xd [(("at" : Str), v)]) :=
      ⟨_, hns.at (fun o q => (gk d M.dne).trans q), fun f => relO_at rv f⟩
    have J : Inv X pins σ (upd H1 d (.xd [(("at" : Str), v)])) ⟨G', g, dr, tk', os⟩ := I1.laid (t' := tk') old M.dbig ob
    refine ⟨e, oe, fv, ⟨G', g, dr, tk', os⟩, _, .ref C, some d, rfl, J, fun b o q => ?_, ge, hoe, ⟨hc, hd⟩, hdat, h1, ?_, rfl, I1.bare, raises_own T.exC T.tyC, q1 d (I1.hok.fresh M.dbig)⟩
    · by_cases hb : b = e
      · have q' : G'.get? b = some o := q
        rw [hb, ge] at q'; cases q'
      · exact (gk b hb).symm.trans q
    · rw [upd_ne (Ne.symm M.dne)]
      exact I1.hok.fresh M.new
/-- raise nm(e) -/
def tRaiseErr (C : Addr) (W : WX) (ta : TA) : TS := fun _ σ H => tMkErr C ta σ H fun cls d H' => W cls d σ H'
theorem ps_raiseErr {a : Expr} {ta : TA} {W : WX} {p pos pos2 : Pos} {k : Nat} (hc : X.calm = true) (T : PySem.ErX.ErrTxt X.prog X.K X.mg nm C fI cc cda) (hr : Room k X.A) (tk : Takes X W) (ha : PA X [a] ta) (hg : Gl X nm := by rfl)
    (hdb : (nm == ("__debug__" : Str)) = false := by decide) (he : starEach (a :: []) X.env = (false, eval a X.env) :: starEach [] X.env := by rfl) (hpl : (backTo pos (starEach [] X.env)).any (·.1) = false := by rfl) :
    PS X (.Raise (some (.Call (.Name nm p) [a] [] pos)) none pos2) (tRaiseErr C W ta) := ps_raise hc tk (pmk_err T hr ha hg hdb he hpl)
/-- err.at, err the error that the suite holds -/
def tByErr (C : Addr) (a : Addr) (cls : Value) (d : Option Addr) (te : TE) : TE := fun σ H Q => te σ H fun x H1 => x = .ref a ∧ cls = .ref C ∧ ∃ (dd : Addr) (v : V), d = some dd ∧ H1 dd = some (.xd [(("at" : Str), v)]) ∧ Q v H1
theorem pe_byErr {a : Addr} {oe : Obj} {cls : Value} {d : Option Addr} {pn : List (Addr × Obj)} {e : Expr} {te : TE} {pos : Pos} (T : PySem.ErX.ErrTxt X.prog X.K X.mg nm C fI cc cda) (hz : Zc cls d oe) (hf : ∃ vs, oe.data = .fields vs) (he : PE (X.suite a ((a, oe) :: pn)) e te)
    (hb : attributeBase e "at" X.env (eval e X.env) = eval e X.env := by rfl) :
    PE (X.suite a ((a, oe) :: pn)) (.Attribute e "at" pos) (tByErr C a cls d te) := by
  refine ⟨fun pins s σ H Q I h => ?_⟩
  refine attr_of hb (thn (he.run pins s σ H _ I h) fun u s1 hh => ?_)
  obtain ⟨x, H1, I1, rx, ex, ec, dd, v, ed, ea, q⟩ := hh
  subst ex
  obtain rfl : u = Value.ref a := rx
  subst ec
  subst ed
  obtain ⟨ha, _⟩ := I1.pin (a, oe) (List.mem_append_left _ List.mem_cons_self)
  obtain ⟨vs, hd⟩ := hf
  have hx : ObjOk X.prog X.w H1 s1.heap dd (.xd [(("at" : Str), v)]) := I1.hok dd _ ea
  obtain ⟨mA, hns, hr⟩ := hx
  obtain ⟨od, ho, hl⟩ := lookIn_ns hns
  have l : List.lookup ("at" : Str) [(("at" : Str), v)] = some v := by simp [List.lookup]
  obtain ⟨u, hu, ru⟩ := RelO.some_of (v := v) (o := mA "at") (by rw [← l]; exact hr "at")
  have J : PySem.W.InstAt s1.heap a oe C (some od) := ⟨ha, hz.1, by unfold PySem.W.notCls; rw [hd] <;> rfl, by rw [hz.2]; exact ho⟩
  exact HandSPX.exc_get I1.kIn J T.ga T.gg T.exC (PySem.W.findObj_own T.hdC T.noN rfl (by rw [hl, hu])) (handed_of ru) ⟨v, H1, I1.tok _, ru, q⟩
/-! ### a try with several clauses, named or not -/
abbrev Clause := Value × Option Nat × (Addr → Value → Option Addr → TS)
def endsAt (D : Ends) (i : Nat) : Ends := { nx := fun σ' H' => D.nx (σ'.set i none) H', rt := D.rt, bk := fun σ' H' => D.bk (σ'.set i none) H', ct := fun σ' H' => D.ct (σ'.set i none) H' }
def wL (K : PySem.W.Frag) (Wout : WX) (D : Ends) : List Clause → WX
  | [] => Wout
  | (c, none, ts) :: r => fun cls d σ H => ∃ b, PySem.W.exmOne K cls c = some b ∧ (b = true → ∀ a, H a = none → ts a cls d D σ H) ∧ (b = false → wL K Wout D r cls d σ H)
  | (c, some i, ts) :: r => fun cls d σ H => ∃ b, PySem.W.exmOne K cls c = some b ∧ (b = true → ∀ a, H a = none → ts a cls d (endsAt D i) (σ.set i (some (.ref a))) H) ∧ (b = false → wL K Wout D r cls d σ H)
inductive CsOk (X : Cx) : List ExceptHandler → List Clause → Prop
  | nil : CsOk X [] []
  | plain {x : Str} {c : Value} {ts : Addr → Value → Option Addr → TS} {b₀ : Stmt} {suite : List Stmt} {np pos' : Pos} {hds : List ExceptHandler} {l : List Clause} (hc : Names X x c)
      (hsu : ∀ (a : Addr) (oe : Obj) (cls : Value) (d : Option Addr) (pn : List (Addr × Obj)), Zc cls d oe → (∃ vs, oe.data = .fields vs) → PSs (X.suite a ((a, oe) :: pn)) (b₀ :: suite) (ts a cls d)) (r : CsOk X hds l) :
      CsOk X (.ExceptHandler (some (.Name x np)) none (b₀ :: suite) pos' :: hds) ((c, none, ts) :: l)
  | named {x n : Str} {c : Value} {i : Nat} {ts : Addr → Value → Option Addr → TS} {b₀ : Stmt} {suite : List Stmt} {np pos' : Pos} {hds : List ExceptHandler} {l : List Clause} (hi : X.N[i]? = some n) (hln : X.env.kindOf n = some .local) (hc : Names X x c)
      (hsu : ∀ (a : Addr) (oe : Obj) (cls : Value) (d : Option Addr) (pn : List (Addr × Obj)), Zc cls d oe → (∃ vs, oe.data = .fields vs) → PSs (X.suite a ((a, oe) :: pn)) (b₀ :: suite) (ts a cls d)) (r : CsOk X hds l) :
      CsOk X (.ExceptHandler (some (.Name x np)) (some n) (b₀ :: suite) pos' :: hds) ((c, some i, ts) :: l)
end
section
variable {X : Cx} {body : List Stmt} {h₀ : ExceptHandler} {hds : List ExceptHandler} {l : List Clause} {pos : Pos} {tb : WX → TS} {Wout : WX}
theorem ps_try_list (hs : X.stack = X.env :: X.outer) (hf : X.env.frame = some X.env.locals) (hN : X.N.Nodup) (tk : Takes X Wout)
    (hb : ∀ (W : WX) (pn : List (Addr × Obj)) (xe : Value → Shared → Prop), Takes (X.tr pn xe) W → PassesOwn (model X.prog X.w) X.A X.env xe → PSs (X.tr pn xe) body (tb W))
    (hh : CsOk X (h₀ :: hds) l) : PS X (.Try body (h₀ :: hds) [] [] pos) (fun D σ H => tb (wL X.K Wout D l) D σ H) := by
  refine ⟨fun pins s σ H D I h => ?_⟩
  have ok := I.ok
  have hfr : X.A.frames = some (X.env :: X.outer) := by rw [ok.frames, hs]
  refine wpAny_Try_except ?_
  refine wpAny_mono ((hb (wL X.K Wout D l) (X.pn ++ pins) (fun e s₁ => wpAny (model X.prog X.w) X.A (noteFrame e X.env) (fun _ s₂ => wpAny (model X.prog X.w) X.A (setFlight e none) (fun _ s₃ =>
    wpAny (model X.prog X.w) X.A (handleBy e X.env (h₀ :: hds)) (SP X pins D) X.xe s₃) X.xe s₂) X.xe s₁) (fun u s' xx => ?_) PassesOwn.looking).run [] s σ H D (I.toTry _) h) (fun f s1 hsp => ?_) (fun e s1 he => he)
  · obtain ⟨a, B, sI, pins', σ', H', cls, d, rfl, J', nb, up, sky, na, os, ag, w⟩ := xx
    have J : Inv X pins σ' H' sI := J'.ofTry ok
    have sky' : Sky B (X.env :: X.outer) a (Zc cls d) X.env.locals s'.heap := by rw [← hs]; exact sky
    show wpAny (model X.prog X.w) X.A (noteFrame (.ref a) X.env) _ _ _
    refine Sky.land Zc.steady hfr hf sky' fun h3 fl3 up3 => ?_
    have J3 : Inv X pins σ' H' { s' with heap := h3 } := J.landed nb fl3.1 (up.trans up3) os ag
    obtain ⟨oe3, vs3, he3, hz3, hd3⟩ := fl3.there
    have notFr : ∀ {h : Heap} {o : Obj} {vs : Array Value}, h.FunFrames B (X.env :: X.outer) → h.get? a = some o → o.data = .fields vs → a ∉ frs (X.env :: X.outer) := fun {h o vs} ff e dd hm => by
      obtain ⟨_, o', e', hnf⟩ := ff.mem hm
      rw [e] at e'; cases e'
      exact hnf _ dd
    have nfr := notFr fl3.2.2.1 he3 hd3
    have nL : a ≠ X.env.locals := fun z => nfr (List.mem_filterMap.mpr ⟨X.env, List.mem_cons_self, by rw [hf, z]⟩)
    have nF : a ∉ X.fs := fun hm => by
      obtain ⟨e, he, q⟩ := List.mem_filterMap.mp hm
      exact nfr (List.mem_filterMap.mpr ⟨e, List.mem_cons_of_mem _ he, q⟩)
    have S3 := J3.suite he3 hd3 na nL nF
    have LT : PySem.W.Looks (model X.prog X.w) h3 (typeOf (.ref a)) cls := fun A Q E s k q => wpAny_typeOf_ref (k _ _ he3) (by rw [hz3.1]; exact q)
    have test : ∀ {x : Str} {c : Value} {np : Pos} {Q : Value → Shared → Prop} {E : Value → Shared → Prop}, Names X x c → Q c { s' with heap := h3 } → wpAny (model X.prog X.w) (X.A.mark (some (.ref a))) (eval (.Name x np) X.env) Q E { s' with heap := h3 } := fun {x c np Q E} hc q => by
      obtain ⟨hg, hdbg, hm | ⟨hm, hv, hnn⟩⟩ := hc
      · exact ld_glob (X := X.suite a ((a, oe3) :: (X.pn ++ pins))) S3 hg hm q hdbg
      · exact ld_blt (X := X.suite a ((a, oe3) :: (X.pn ++ pins))) S3 hg hm hv q hnn hdbg
    have go : ∀ {hds' : List ExceptHandler} {l' : List Clause}, CsOk X hds' l' → wL X.K Wout D l' cls d σ' H' →
        wpAny (model X.prog X.w) X.A (handleBy (.ref a) X.env hds') (SP X pins D) X.xe { s' with heap := h3 } := by
      intro hds' l' hk
      induction hk with
      | nil =>
        intro w
        refine wpAny_handleBy_nil ?_
        obtain ⟨k1, k2, k3, oe, vs, T, oT, ts', he, hz, hd, h1, hr⟩ := id fl3
        unfold PySem.passOn
        refine wpAny_bind (wpAny_field he hd h1 ?_)
        rw [if_neg (show ¬ ((Value.ref T == Value.none) = true) from by simp)]
        have fin : wpAny (model X.prog X.w) X.A (setFlight (.ref a) X.env.frame) (fun _ s4 => wpAny (model X.prog X.w) X.A (throw (.ref a) : Sem Flow) (SP X pins D) X.xe s4) X.xe { s' with heap := h3 } := by
          rw [hf]
          refine HandSPX.setFlight_upZ fl3 fun h4 hh4 up4 => wpAny_throw (tk _ _ ?_)
          exact ⟨a, B, sI, pins, σ', H', cls, d, rfl, J, nb, (up.trans up3).trans up4, .inr (.inr (by rw [hs]; exact hh4)), na, os, ag, w⟩
        first
          | exact wpAny_bind (wpAny_pure (wpAny_bind fin))
          | exact wpAny_bind fin
      | @plain x c ts b₀ suite np pos' hds2 l2 hc hsu r ih =>
        intro w
        obtain ⟨b, hb1, hyes, hno⟩ := w
        refine wpAny_handleBy_cons (codeAny_handlers_test ?_) (by intro q; cases q)
        have LM := PySem.W.exm_one (M := model X.prog X.w) (J3.kIn) LT hb1
        refine test hc (LM.here ?_)
        cases b with
        | true =>
          refine codeAny_handlers_suite ?_
          refine HandSPX.lands_againZ fl3 fun h4 fl4 up4 => ?_
          have J4 : Inv X pins σ' H' { s' with heap := h4 } := J.landed nb fl4.1 ((up.trans up3).trans up4) os ag
          obtain ⟨oe4, vs4, he4, hz4, hd4⟩ := fl4.there
          have S4 := J4.suite he4 hd4 na nL nF
          refine wpAny_mono ((hsu a oe4 cls d (X.pn ++ pins) hz4 ⟨_, hd4⟩).run [] _ _ H' _ S4 (hyes rfl a na)) (fun f s6 hsp => ?_) (fun _ _ z => False.elim z)
          cases f with
          | next =>
            obtain ⟨σ6, H6, S6, q6⟩ := hsp
            exact ⟨_, _, S6.unsuite ok, q6⟩
          | brk =>
            obtain ⟨σ6, H6, S6, q6⟩ := hsp
            exact ⟨_, _, S6.unsuite ok, q6⟩
          | cont =>
            obtain ⟨σ6, H6, S6, q6⟩ := hsp
            exact ⟨_, _, S6.unsuite ok, q6⟩
          | ret u =>
            obtain ⟨v6, σ6, H6, S6, r6, q6⟩ := hsp
            exact ⟨_, _, _, S6.unsuite ok, r6, q6⟩
        | false =>
          show wpAny _ X.A (handleBy (.ref a) X.env hds2) _ _ _
          exact ih (hno rfl)
      | @named x n c i ts b₀ suite np pos' hds2 l2 hi hln hc hsu r ih =>
        intro w
        obtain ⟨b, hb1, hyes, hno⟩ := w
        refine wpAny_handleBy_cons (codeAny_handlers_test ?_) (by intro q; cases q)
        have LM := PySem.W.exm_one (M := model X.prog X.w) (J3.kIn) LT hb1
        refine test hc (LM.here ?_)
        cases b with
        | true =>
          refine codeAny_handlers_suite_as ?_
          refine HandSPX.lands_againZ fl3 fun h4 fl4 up4 => ?_
          have J4 : Inv X pins σ' H' { s' with heap := h4 } := J.landed nb fl4.1 ((up.trans up3).trans up4) os ag
          obtain ⟨oe4, vs4, he4, hz4, hd4⟩ := fl4.there
          have S4 := J4.suite he4 hd4 na nL nF
          refine store_ok (X := X.suite a ((a, oe4) :: (X.pn ++ pins))) (v := .ref a) S4 hN hi (.inl hln) rfl (fun s5 S5 => ?_) (.inr hln)
          refine wpAny_mono ((hsu a oe4 cls d (X.pn ++ pins) hz4 ⟨_, hd4⟩).run [] s5 _ H' _ S5 (hyes rfl a na)) (fun f s6 hsp => ?_) (fun _ _ z => False.elim z)
          have end_ : ∀ {σ6 : L2.St} {H6 : Hp} {Q : Shared → Prop}, Inv (X.suite a ((a, oe4) :: (X.pn ++ pins))) [] σ6 H6 s6 → (∀ s7, Inv X pins (σ6.set i none) H6 s7 → Q s7) →
              wpAny (model X.prog X.w) X.A (do bindName X.env n .none; unbindBehindTheSuite X.env n pos') (fun _ s7 => Q s7) X.xe s6 := fun {σ6 H6 Q} S6 hq => gone_ok (S6.unsuite ok) hN hi hln hq
          cases f with
          | next =>
            obtain ⟨σ6, H6, S6, q6⟩ := hsp
            exact end_ S6 fun s7 J7 => ⟨_, _, J7, q6⟩
          | brk =>
            obtain ⟨σ6, H6, S6, q6⟩ := hsp
            exact end_ S6 fun s7 J7 => ⟨_, _, J7, q6⟩
          | cont =>
            obtain ⟨σ6, H6, S6, q6⟩ := hsp
            exact end_ S6 fun s7 J7 => ⟨_, _, J7, q6⟩
          | ret u =>
            obtain ⟨v6, σ6, H6, S6, r6, q6⟩ := hsp
            exact end_ S6 fun s7 J7 => ⟨_, _, _, J7, r6, q6⟩
        | false =>
          show wpAny _ X.A (handleBy (.ref a) X.env hds2) _ _ _
          exact ih (hno rfl)
    exact go hh w
  · cases f with
    | next =>
      obtain ⟨σ', H', J', q⟩ := hsp
      exact wpAny_execs_nil ⟨σ', H', J'.ofTry ok, q⟩
    | brk =>
      obtain ⟨σ', H', J', q⟩ := hsp
      exact ⟨σ', H', J'.ofTry ok, q⟩
    | cont =>
      obtain ⟨σ', H', J', q⟩ := hsp
      exact ⟨σ', H', J'.ofTry ok, q⟩
    | ret u =>
      obtain ⟨v, σ', H', J', r, q⟩ := hsp
      exact ⟨v, σ', H', J'.ofTry ok, r, q⟩
end
end Y
/-! part A5 -/
/-! More rules: defs and classes under their names, targets that are attributes or a dict's places, list(range(a, b, c)); operators of any kind in one; short forms of what the readings ask. -/
namespace Y
open PySem L2 PySem.Spec PyProof.Rows
/-! ### defs, methods, classes of the text -/
structure Cal (P : Program) (w : World) (K : PySem.W.Frag) (mg : Str → Option Value) (base : Heap) (k : Nat) (x : Str) (sp : Sp) : Prop where
  ex : ∃ (f : Addr) (fd : FuncData) (ps : List Str), FnOk P w K mg base (L2.CX P w) k f fd ps sp ∧ mg x = some (.ref f) ∧ PySem.W.keepIn K (.ref f) = true ∧ Binds K fd ps []
structure Met (P : Program) (w : World) (K : PySem.W.Frag) (mg : Str → Option Value) (base : Heap) (k : Nat) (C : Addr) (m : Str) (sp : Sp) : Prop where
  ex : ∃ (f : Addr) (fd : FuncData) (ps : List Str), Cls K C ∧ Meth K C m f ∧ FnOk P w K mg base (L2.CX P w) k f fd ps sp ∧ Binds K fd ps []
structure Mak (P : Program) (w : World) (K : PySem.W.Frag) (mg : Str → Option Value) (base : Heap) (k : Nat) (x : Str) (C : Addr) (sp : Sp) : Prop where
  ex : ∃ (f : Addr) (fd : FuncData) (ps : List Str), Mk K C f ∧ FnOk P w K mg base (L2.CX P w) k f fd ps sp ∧ mg x = some (.ref C) ∧ Binds K fd ps []
section
variable {X : Cx} {k j : Nat} {C : Addr} {x m : Str} {sp : Sp} {p pos apos : Pos} {e o : Expr} {es : List Expr} {ta : TE} {t : TA} {E : XK}
/-- nothing is let out of the call -/
theorem pe_c (c : Cal X.prog X.w X.K X.mg X.base k x sp) (hr : Room j X.A) (hk : k ≤ j) (hg : Gl X x) (ha : PA X (e :: es) t)
    (hdb : (x == ("__debug__" : Str)) = false := by decide) (he : starEach (e :: es) X.env = (false, eval e X.env) :: starEach es X.env := by rfl) (hpl : (backTo pos (starEach es X.env)).any (·.1) = false := by rfl) :
    PE X (.Call (.Name x p) (e :: es) [] pos) (tCall sp [] E0 t) := by
  obtain ⟨f, fd, ps, F, hm, kp, b⟩ := c.ex
  exact pe_call F (hr.mono hk) hg hm kp b .nil passL ha hdb he hpl
/-- what is raised is let out -/
theorem pe_cX (c : Cal X.prog X.w X.K X.mg X.base k x sp) (hr : Room j X.A) (hk : k ≤ j) (hx : Passes (L2.CX X.prog X.w) X E) (hg : Gl X x) (ha : PA X (e :: es) t)
    (hdb : (x == ("__debug__" : Str)) = false := by decide) (he : starEach (e :: es) X.env = (false, eval e X.env) :: starEach es X.env := by rfl) (hpl : (backTo pos (starEach es X.env)).any (·.1) = false := by rfl) :
    PE X (.Call (.Name x p) (e :: es) [] pos) (tCall sp [] E t) := by
  obtain ⟨f, fd, ps, F, hm, kp, b⟩ := c.ex
  exact pe_call F (hr.mono hk) hg hm kp b .nil hx ha hdb he hpl
theorem pe_mkX (c : Mak X.prog X.w X.K X.mg X.base k x C sp) (hr : Room j X.A) (hk : k + 1 ≤ j) (hx : Passes (L2.CX X.prog X.w) X E) (hg : Gl X x) (ha : PA X (e :: es) t)
    (hdb : (x == ("__debug__" : Str)) = false := by decide) (he : starEach (e :: es) X.env = (false, eval e X.env) :: starEach es X.env := by rfl) (hpl : (backTo pos (starEach es X.env)).any (·.1) = false := by rfl) :
    PE X (.Call (.Name x p) (e :: es) [] pos) (tMake C sp [] E t) := by
  obtain ⟨f, fd, ps, M, F, hm, b⟩ := c.ex
  exact pe_make M F (hr.mono hk) hg hm b .nil hx ha hdb he hpl
theorem pe_mk (c : Mak X.prog X.w X.K X.mg X.base k x C sp) (hr : Room j X.A) (hk : k + 1 ≤ j) (hg : Gl X x) (ha : PA X (e :: es) t)
    (hdb : (x == ("__debug__" : Str)) = false := by decide) (he : starEach (e :: es) X.env = (false, eval e X.env) :: starEach es X.env := by rfl) (hpl : (backTo pos (starEach es X.env)).any (·.1) = false := by rfl) :
    PE X (.Call (.Name x p) (e :: es) [] pos) (tMake C sp [] E0 t) := pe_mkX c hr hk passL hg ha hdb he hpl
theorem pe_mtX {pl : Sem Bool} (c : Met X.prog X.w X.K X.mg X.base k C m sp) (hr : Room j X.A) (hk : k ≤ j) (hx : Passes (L2.CX X.prog X.w) X E) (he : PE X o ta) (ha : PA X (e :: es) t)
    (hst : starEach (e :: es) X.env = (false, eval e X.env) :: starEach es X.env := by rfl) (hpl : (backTo pos (starEach es X.env)).any (·.1) = false := by rfl)
    (ht : eval (.Call (.Attribute o m apos) (e :: es) [] pos) X.env = (do
      let ov ← eval o X.env
      standAt apos.atName
      let (f, first) ← holding [ov] (getMethod ov m pl)
      callWith pos f first (backTo pos (starEach (e :: es) X.env)) (backToKw pos (keywordEach [] X.env))) := by rfl) :
    PE X (.Call (.Attribute o m apos) (e :: es) [] pos) (tMeth C m sp [] E ta t) := by
  obtain ⟨f, fd, ps, hc, hm, F, b⟩ := c.ex
  exact pe_meth (pl := pl) he hc hm F (hr.mono hk) b .nil hx ha hst hpl ht
theorem pe_mt0X {pl : Sem Bool} (c : Met X.prog X.w X.K X.mg X.base k C m sp) (hr : Room j X.A) (hk : k ≤ j) (hx : Passes (L2.CX X.prog X.w) X E) (he : PE X o ta)
    (ht : eval (.Call (.Attribute o m apos) [] [] pos) X.env = (do
      let ov ← eval o X.env
      standAt apos.atName
      let (f, first) ← holding [ov] (getMethod ov m pl)
      callWith pos f first (backTo pos (starEach [] X.env)) (backToKw pos (keywordEach [] X.env))) := by rfl) :
    PE X (.Call (.Attribute o m apos) [] [] pos) (tMeth C m sp [] E ta tNil) := by
  obtain ⟨f, fd, ps, hc, hm, F, b⟩ := c.ex
  exact pe_meth0 (pl := pl) he hc hm F (hr.mono hk) b .nil hx ht
theorem pe_gc {v : V} (hg : Gl X x) (h : ∃ u, X.mg x = some u ∧ RelV v u) (hd : (x == ("__debug__" : Str)) = false := by decide) : PE X (.Name x pos) (tC v) := by
  obtain ⟨u, hm, r⟩ := h
  exact pe_glob hg hm r hd
end
section
variable {P : Program} {w : World} {K : PySem.W.Frag} {mg : Str → Option Value} {base : Heap}
/-- the promise of a def by its body -/
theorem cal_of {x : Str} {st : Stmt} {f : Addr} {fd : FuncData} {N ps : List Str} {k : Nat} {sp : Sp} (F : Fun K x x st f fd) (hm : mg x = some (.ref f)) (b : Binds K fd ps []) (S : FnScope N ps (defScope st)) (len : ∀ vs H Q E, sp vs H Q E → vs.length = ps.length)
    (hbody : ∀ (cdv : Value) (A : Around) (outer : List Env) (s : Shared) (H : Hp) (vs : List V) (Q : VK) (E : XK), Room k (A.deeper (envOfC x (defScope st) s.heap.objs.size f cdv)) → sp vs H Q E →
      ∃ t, PSs (cxOf (L2.CX P w) P w K mg base N x (defScope st) f cdv A outer s H E) (defBody st) t ∧ t { nx := fun _ H' => Q .non H', rt := Q } (start N vs) H) : Cal P w K mg base (k + 1) x sp :=
  ⟨f, fd, ps, F.okX S len hbody, hm, F.kp, b⟩
theorem met_of {m qual : Str} {C : Addr} {st : Stmt} {f : Addr} {fd : FuncData} {N ps : List Str} {k : Nat} {sp : Sp} (c : Cls K C) (me : Meth K C m f) (F : Fun K m qual st f fd) (b : Binds K fd ps []) (S : FnScope N ps (defScope st)) (len : ∀ vs H Q E, sp vs H Q E → vs.length = ps.length)
    (hbody : ∀ (cdv : Value) (A : Around) (outer : List Env) (s : Shared) (H : Hp) (vs : List V) (Q : VK) (E : XK), Room k (A.deeper (envOfC qual (defScope st) s.heap.objs.size f cdv)) → sp vs H Q E →
      ∃ t, PSs (cxOf (L2.CX P w) P w K mg base N qual (defScope st) f cdv A outer s H E) (defBody st) t ∧ t { nx := fun _ H' => Q .non H', rt := Q } (start N vs) H) : Met P w K mg base (k + 1) C m sp :=
  ⟨f, fd, ps, c, me, F.okX S len hbody, b⟩
theorem mak_of {x qual : Str} {C : Addr} {st : Stmt} {f : Addr} {fd : FuncData} {N ps : List Str} {k : Nat} {sp : Sp} (M : Mk K C f) (hm : mg x = some (.ref C)) (F : Fun K "__init__" qual st f fd) (b : Binds K fd ps []) (S : FnScope N ps (defScope st)) (len : ∀ vs H Q E, sp vs H Q E → vs.length = ps.length)
    (hbody : ∀ (cdv : Value) (A : Around) (outer : List Env) (s : Shared) (H : Hp) (vs : List V) (Q : VK) (E : XK), Room k (A.deeper (envOfC qual (defScope st) s.heap.objs.size f cdv)) → sp vs H Q E →
      ∃ t, PSs (cxOf (L2.CX P w) P w K mg base N qual (defScope st) f cdv A outer s H E) (defBody st) t ∧ t { nx := fun _ H' => Q .non H', rt := Q } (start N vs) H) : Mak P w K mg base (k + 1) x C sp :=
  ⟨f, fd, ps, M, F.okX S len hbody, hm, b⟩
end
section
variable {X : Cx} {pos : Pos}
/-- o.f = .., as a target -/
def gAttr (K : PySem.W.Frag) (to : TE) (f : Str) : TG := fun v σ H Q => to σ H fun x H2 => ∃ a C dx fs, x = .ref a ∧ H2 a = some (.ins C dx fs) ∧ Cls K C ∧ NoAttr K C f ∧ fs.length < 1000 ∧ Q σ (upd H2 a (.ins C dx (putF f v fs)))
theorem pg_attr {o : Expr} {f : Str} {to : TE} (ho : PE X o to) : PG X (.Attribute o f pos) (gAttr X.K to f) := by
  refine ⟨fun pins s σ H v u Q I r h => ?_⟩
  rw [assign_Attribute]
  refine wpAny_bind (wpAny_holding (thn (ho.run pins s σ H _ I h) fun ov s1 ⟨x, H1, I1, r1, q1⟩ => ?_))
  obtain ⟨a, C, dx, fs, ex, ea, c, n, l, q⟩ := q1
  subst ex
  obtain rfl : ov = Value.ref a := r1
  refine wpAny_bind (wpAny_standAt (wpAny_bind (wpAny_holding (setattr_ok I1 ea c n l r fun s2 I2 => ?_))))
  exact wpAny_release ⟨σ, _, I2, q⟩
/-- d[k] = .., as a target -/
def rSetD : V → V → V → Hp → (Hp → Prop) → Prop := fun o i v H Q => ∃ a H', o = .ref a ∧ DPut H a i v H' ∧ Q H'
theorem set_dict (hu : X.A.units + 1 < cLine) : PSet X rSetD := by
  intro pins s σ H o i v ov iv u Q I ro ri rv h
  obtain ⟨a, H', rfl, g, q⟩ := h
  obtain rfl : ov = Value.ref a := ro
  exact d_setItem hu I g ri rv fun s2 I2 => ⟨H', I2, q⟩
/-- list(range(a, b, c)) -/
def tLstRg3 (ta : TA) : TE := fun σ H Q => ta σ H fun vs H1 => ∃ (i j c : Int) (n : Nat), vs = [.int i, .int j, .int c] ∧ RgC i j c n ∧ n ≤ 2 ^ 24 ∧ ∀ q, H1 q = none → Q (.ref q) (upd H1 q (.lst ((List.range n).map fun (k : Nat) => V.int (i + (k : Int) * c))))
theorem vals_step {a c : Int} {n : Nat} {acc : Array Value} (h : ItemsOf (fun i v => ∃ t, v = .int (a + (i : Int) * c) t) acc n) : Vals ((List.range n).map fun (k : Nat) => V.int (a + (k : Int) * c)) acc.toList := by
  have e : acc.toList.length = n := by rw [Array.length_toList]; exact h.1
  rw [← e]
  refine vals_of_get acc.toList _ fun j u hj => ?_
  obtain ⟨t, rfl⟩ := h.2 j u (by rw [← hj, Array.getElem?_toList])
  exact ⟨t, rfl⟩
theorem pe_listRg3 {a b c : Expr} {ta : TA} {p p2 pos2 : Pos} (hc : X.calm = true) (hg : Gl X "list") (hm : X.mg "list" = none) (hg2 : Gl X "range") (hm2 : X.mg "range" = none) (ha : PA X [a, b, c] ta)
    (hs : starEach [a, b, c] X.env = (false, eval a X.env) :: starEach [b, c] X.env := by rfl) (hpl : (backTo pos2 (starEach [b, c] X.env)).any (·.1) = false := by rfl)
    (na : starEach [.Call (.Name "range" p2) [a, b, c] [] pos2] X.env = (false, eval (.Call (.Name "range" p2) [a, b, c] [] pos2) X.env) :: starEach [] X.env := by rfl) :
    PE X (.Call (.Name "list" p) [.Call (.Name "range" p2) [a, b, c] [] pos2] [] pos) (tLstRg3 ta) := by
  refine ⟨fun pins s σ H Q I h => ?_⟩
  refine Call_ (ld_blt I hg hm boot_list (PyProof.Rows.callWith_type1 (args_cons (Call_ (ld_blt I hg2 hm2 boot_range (PyProof.Rows.callWith_type1 (thn (ha.run pos2 pins s σ H _ I h) fun us s1 ⟨vs, H1, I1, r1, q1⟩ => ?_) hs hpl))) na) na))
  obtain ⟨i, j, k, n, e, ⟨c0, c1, c2, c3⟩, hn, q⟩ := q1
  subst e
  cases r1 with
  | cons r rr =>
    cases rr with
    | cons r' rr =>
      cases rr with
      | cons r'' rr =>
        cases rr
        obtain ⟨t, rfl⟩ := r
        obtain ⟨t', rfl⟩ := r'
        obtain ⟨t'', rfl⟩ := r''
        refine call_range_3 c0 (args_nil ?_) (.inl (PyProof.noPylong_small c1))
        have I2 : Inv X pins σ H1 { s1 with heap := s1.heap.push { cls := .type "range", data := .fields #[.int i t, .int j t', .int k t''] } } := I1.kept (t' := s1.toks) fun b o e => Heap.get?_push_of_some _ e
        refine call_list_range (s := { s1 with heap := s1.heap.push { cls := .type "range", data := .fields #[.int i t, .int j t', .int k t''] } }) (n := n) (I2.ok.hd hc) (IsRange.new _ _ _ _ _ _ _) c2 c3 hn fun h' tk acc c' hk e' hi => ?_
        refine ⟨.ref _, _, I2.laid hk (Nat.le_refl _) (show ObjOk X.prog X.w _ _ _ (.lst ((List.range n).map fun (k1 : Nat) => V.int (i + (k1 : Int) * k))) from ⟨?_, acc.toList, c', vals_step hi, ?_⟩), rfl, q _ (I2.hok.fresh (Nat.le_refl _))⟩
        · rw [List.length_map, List.length_range, sizeLine_eq]; omega
        · rw [Array.toArray_toList]; exact e'
end
end Y
/-! part A6 -/
/-! Operators of any kind, and short forms of what the readings ask. -/
namespace Y
open PySem L2
section
variable {X : Cx}
/-! ### operators -/
abbrev rAddI : R2 := rI0 fun i j => .int (i + j)
def rAddU (K : PySem.W.Frag) : R2 := fun x y H Q => (rAddI x y H Q ∨ rCat x y H Q) ∨ rCatA K x y H Q
theorem oAdd : OpR X (binaryOp .Add) (rAddU X.K) := OpR.or (OpR.or op_add op_cat) op_catA
def rMulU : R2 := fun x y H Q => rI CMul (fun i j => .int (i * j)) x y H Q ∨ rRep x y H Q
theorem oMul : OpR X (binaryOp .Mult) rMulU := OpR.or op_mul op_rep
def rEqU (K : PySem.W.Frag) : R2 := fun x y H Q => rEq x y H Q ∨ rEqD K x y H Q
theorem oEq (hu : X.A.units + 64 < cLine) : OpR X (compareOp .Eq) (rEqU X.K) := OpR.or op_eq (op_eqD hu)
def rNeU (K : PySem.W.Frag) : R2 := fun x y H Q => rNe x y H Q ∨ rNeD K x y H Q
theorem oNe (hu : X.A.units + 64 < cLine) : OpR X (compareOp .NotEq) (rNeU X.K) := OpR.or op_ne (op_neD hu)
def rLtU (K : PySem.W.Frag) : R2 := fun x y H Q => rI0 (fun i j => .bl (decide (i < j))) x y H Q ∨ rLtD K x y H Q
theorem oLt (hu : X.A.units + 64 < cLine) : OpR X (compareOp .Lt) (rLtU X.K) := OpR.or op_lt (op_ltD hu)
def rIxU (K : PySem.W.Frag) : R2 := fun x y H Q => rIxL K x y H Q ∨ rIxT K x y H Q
theorem oIx : IxR X (rIxU X.K) := IxR.or ix_list ix_tup
def rSlU (K : PySem.W.Frag) : V → Option Int → Option Int → Hp → VK → Prop := fun x lo hi H Q => rSlL K x lo hi H Q ∨ rSlA K x lo hi H Q
theorem oSl : SlR X (rSlU X.K) := SlR.or sl_list sl_tupA
theorem oAddK (K : PySem.W.Frag) (h : X.K = K := by rfl) : OpR X (binaryOp .Add) (rAddU K) := by subst h; exact oAdd
theorem oEqK (K : PySem.W.Frag) (hu : X.A.units + 64 < cLine) (h : X.K = K := by rfl) : OpR X (compareOp .Eq) (rEqU K) := by subst h; exact oEq hu
theorem oNeK (K : PySem.W.Frag) (hu : X.A.units + 64 < cLine) (h : X.K = K := by rfl) : OpR X (compareOp .NotEq) (rNeU K) := by subst h; exact oNe hu
theorem oLtK (K : PySem.W.Frag) (hu : X.A.units + 64 < cLine) (h : X.K = K := by rfl) : OpR X (compareOp .Lt) (rLtU K) := by subst h; exact oLt hu
theorem oIxK (K : PySem.W.Frag) (h : X.K = K := by rfl) : IxR X (rIxU K) := by subst h; exact oIx
theorem oSlK (K : PySem.W.Frag) (h : X.K = K := by rfl) : SlR X (rSlU K) := by subst h; exact oSl
end
/-! ### what is asked, under names -/
def mkT (vs : List V) (H : Hp) (Q : VK) : Prop := vs.length ≤ sizeLine ∧ ∀ p, H p = none → Q (.ref p) (upd H p (.tup vs))
def mkL (vs : List V) (H : Hp) (Q : VK) : Prop := vs.length ≤ sizeLine ∧ ∀ p, H p = none → Q (.ref p) (upd H p (.lst vs))
def kFld (K : PySem.W.Frag) (f : Str) (x : V) (H : Hp) (Q : VK) : Prop := ∃ a C dx fs v, x = .ref a ∧ H a = some (.ins C dx fs) ∧ Cls K C ∧ NoAttr K C f ∧ fs.lookup f = some v ∧ Q v H
def kSfld (K : PySem.W.Frag) (f : Str) (x y : V) (H : Hp) (q : Hp → Prop) : Prop := ∃ a C dx fs, x = .ref a ∧ H a = some (.ins C dx fs) ∧ Cls K C ∧ NoAttr K C f ∧ fs.length < 1000 ∧ q (upd H a (.ins C dx (putF f y fs)))
def kDget (x y : V) (H : Hp) (Q : VK) : Prop := ∃ a v, x = .ref a ∧ DGet H a y (some v) ∧ Q v H
def kDput (x y v : V) (H : Hp) (q : Hp → Prop) : Prop := ∃ a H4, x = .ref a ∧ DPut H a y v H4 ∧ q H4
def kPair (vs : List V) (q : V → V → Prop) : Prop := ∃ v w, vs = [v, w] ∧ q v w
def kTri (vs : List V) (q : V → V → V → Prop) : Prop := ∃ u v w, vs = [u, v, w] ∧ q u v w
def kMeth (C : Addr) (m : Str) (x : V) (H : Hp) (q : Prop) : Prop := ∃ a dx fs, x = .ref a ∧ H a = some (.ins C dx fs) ∧ fs.lookup m = none ∧ q
def kMake (C : Addr) (sp : Sp) (E : XK) (vs : List V) (H : Hp) (Q : VK) : Prop := ∀ x dx, H x = none → H dx = none → dx ≠ x → sp (.ref x :: vs) (upd (upd H dx (.own x)) x (.ins C dx [])) (fun v H2 => v = .non ∧ Q (.ref x) H2) E
def rLen (K : PySem.W.Frag) : List V → Hp → VK → Prop := fun xs H Q => ∃ x n, xs = [x] ∧ LenV K x H n ∧ Q (.int n) H
def rTuple (K : PySem.W.Frag) : List V → Hp → VK → Prop := fun xs H Q => ∃ p ys, xs = [.ref p] ∧ ((SqL K H p ys ∧ ∀ l, H l = none → Q (.ref l) (upd H l (.tup ys))) ∨ (SqT K H p ys ∧ Q (.ref p) H))
def rList (K : PySem.W.Frag) : List V → Hp → VK → Prop := fun xs H Q => ∃ p ys, xs = [.ref p] ∧ (SqL K H p ys ∨ SqT K H p ys) ∧ ∀ l, H l = none → Q (.ref l) (upd H l (.lst ys))
def rInt : List V → Hp → VK → Prop := fun xs H Q => (∃ i, xs = [.int i] ∧ Q (.int i) H) ∨ ∃ k, xs = [.bl k] ∧ Q (.int (if k then 1 else 0)) H
def rAbs : List V → Hp → VK → Prop := fun xs H Q => ∃ i, xs = [.int i] ∧ Q (.int (if i < 0 then -i else i)) H
section
variable {X : Cx}
theorem cLen : CallR X (.builtin "len") (rLen X.K) := call_len
theorem cTuple : CallR X (.type "tuple") (rTuple X.K) := call_tuple_of
theorem cList : CallR X (.type "list") (rList X.K) := call_list_of
theorem cInt : CallR X (.type "int") rInt := call_int1
theorem cAbs : CallR X (.builtin "abs") rAbs := call_abs
end
/-! ### short forms -/
section
variable {K : PySem.W.Frag} {σ : L2.St} {H : Hp} {Q : VK} {D : Ends}
theorem x_var {i : Nat} {v : V} (h : σ[i]? = some (some v)) (q : Q v H) : tVar i σ H Q := ⟨v, h, q⟩
theorem x_c {v : V} (q : Q v H) : tC v σ H Q := q
theorem x_op {r : R2} {ta tb : TE} (q : ta σ H fun x H1 => tb σ H1 fun y H2 => r x y H2 Q) : tOp r ta tb σ H Q := q
theorem x_un {r : V → Hp → VK → Prop} {ta : TE} (q : ta σ H fun x H1 => r x H1 Q) : tUn r ta σ H Q := q
theorem x_neg {i : Int} (q : Q (.int (-i)) H) : rU (fun i => .int (-i)) (.int i) H Q := ⟨i, rfl, q⟩
theorem x_cb {r : List V → Hp → VK → Prop} {t : TA} (q : t σ H fun vs H1 => r vs H1 Q) : tCB r t σ H Q := q
theorem x_cons {ta : TE} {tr : TA} {Q : List V → Hp → Prop} (q : ta σ H fun x H1 => tr σ H1 fun xs H2 => Q (x :: xs) H2) : tCons ta tr σ H Q := q
theorem x_nil {Q : List V → Hp → Prop} (q : Q [] H) : tNil σ H Q := q
theorem x_call {sp : Sp} {dvs : List V} {E : XK} {t : TA} (q : t σ H fun vs H1 => sp (vs ++ dvs) H1 Q E) : tCall sp dvs E t σ H Q := q
theorem x_tup {t : TA} (q : t σ H fun xs H1 => mkT xs H1 Q) : tTup t σ H Q := q
theorem x_lst {t : TA} (q : t σ H fun xs H1 => mkL xs H1 Q) : tLst t σ H Q := q
theorem x_sl {r : V → Option Int → Option Int → Hp → VK → Prop} {te : TE} {tl th : TO} (q : te σ H fun x H1 => tl σ H1 fun l H2 => th σ H2 fun u H3 => r x l u H3 Q) : tSl r te tl th σ H Q := q
theorem x_nopart {Q : Option Int → Hp → Prop} (q : Q none H) : tNoPart σ H Q := q
theorem x_part {t : TE} {Q : Option Int → Hp → Prop} (q : t σ H fun x H1 => ∃ i, x = .int i ∧ Q (some i) H1) : tPart t σ H Q := q
theorem x_andV {ta tb : TE} (q : ta σ H fun x H1 => ∃ c, x = .bl c ∧ if c = true then tb σ H1 Q else Q (.bl false) H1) : tAndV ta tb σ H Q := q
theorem x_orV {ta tb : TE} (q : ta σ H fun x H1 => ∃ c, x = .bl c ∧ if c = true then Q (.bl true) H1 else tb σ H1 Q) : tOrV ta tb σ H Q := q
theorem x_notV {ta : TE} (q : ta σ H fun x H1 => ∃ c, x = .bl c ∧ Q (.bl (!c)) H1) : tNotV ta σ H Q := q
theorem x_if {t : TT} {ta tb : TE} (q : t σ H fun c H1 => if c = true then ta σ H1 Q else tb σ H1 Q) : tIf t ta tb σ H Q := q
theorem x_test {t : TE} {Q : Bool → Hp → Prop} (q : t σ H fun x H' => ∃ k, x = .bl k ∧ Q k H') : tTest t σ H Q := q
theorem x_tb {t : TE} {Q : Bool → Hp → Prop} (q : t σ H fun x H' => ∃ k, x = .bl k ∧ Q k H') : tB t σ H Q := q
theorem x_and {t u : TT} {Q : Bool → Hp → Prop} (q : t σ H fun c H1 => if c = true then u σ H1 Q else Q false H1) : tAnd t u σ H Q := q
theorem x_or {t u : TT} {Q : Bool → Hp → Prop} (q : t σ H fun c H1 => if c = true then Q true H1 else u σ H1 Q) : tOr t u σ H Q := q
theorem x_not {t : TT} {Q : Bool → Hp → Prop} (q : t σ H fun c H1 => Q (!c) H1) : tNot t σ H Q := q
theorem x_chain {r r' : R2} {ta tb tc : TE} (q : ta σ H fun x H1 => tb σ H1 fun y H2 => r x y H2 fun z H3 => ∃ k, z = .bl k ∧ if k = true then tc σ H3 fun u H4 => r' y u H4 Q else Q (.bl false) H3) : tChain r r' ta tb tc σ H Q := q
theorem x_exbl {b : Bool} {P : Bool → Prop} (q : P b) : ∃ k, V.bl b = .bl k ∧ P k := ⟨b, rfl, q⟩
theorem x_exint {b : Int} {P : Int → Prop} (q : P b) : ∃ k, V.int b = .int k ∧ P k := ⟨b, rfl, q⟩
theorem x_seq {t u : TS} (q : t { D with nx := u D } σ H) : tSeq t u D σ H := q
theorem x_asg {te : TE} {g : TG} (q : te σ H fun x H1 => g x σ H1 D.nx) : tAsg te g D σ H := q
theorem x_name {i : Nat} {v : V} {Q : L2.St → Hp → Prop} (q : Q (σ.set i (some v)) H) : gName i v σ H Q := q
theorem x_drop {te : TE} (q : te σ H fun _ H1 => D.nx σ H1) : tDrop te D σ H := q
theorem x_ret {te : TE} (q : te σ H D.rt) : tRet te D σ H := q
theorem x_retN (q : D.rt .non H) : tRetN D σ H := q
theorem x_next (q : D.nx σ H) : tNext D σ H := q
theorem x_brk (q : D.bk σ H) : tBreak D σ H := q
theorem x_ifS {c : TT} {t u : TS} (q : c σ H fun b H1 => if b = true then t D σ H1 else u D σ H1) : tIfS c t u D σ H := q
theorem x_fld {ta : TE} {f : Str} (q : ta σ H fun x H1 => kFld K f x H1 Q) : tFld K ta f σ H Q := q
theorem x_sfld {ta tv : TE} {f : Str} (q : tv σ H fun y H1 => ta σ H1 fun x H2 => kSfld K f x y H2 (D.nx σ)) : sFld K ta tv f D σ H := q
theorem x_par {i j : Nat} {ta : TA} (q : ta σ H fun vs H1 => kPair vs fun v w => D.nx ((σ.set i (some v)).set j (some w)) H1) : tPar i j ta D σ H := q
theorem x_par3 {i j l : Nat} {ta : TA} (q : ta σ H fun vs H1 => kTri vs fun u v w => D.nx (((σ.set i (some u)).set j (some v)).set l (some w)) H1) : tPar3 i j l ta D σ H := q
theorem x_dget {td ty : TE} (q : td σ H fun x H1 => ty σ H1 fun y H2 => kDget x y H2 Q) : tDGet td ty σ H Q := q
theorem x_dput {td ty tv : TE} (q : tv σ H fun v H1 => td σ H1 fun x H2 => ty σ H2 fun y H3 => kDput x y v H3 (D.nx σ)) : sDPut td ty tv D σ H := q
theorem x_bm {T : String} {r : V → List V → Hp → VK → Prop} {to : TE} {t : TA} (q : to σ H fun x H1 => tyV K T x H1 ∧ t σ H1 fun xs H2 => r x xs H2 Q) : tBM K T r to t σ H Q := q
theorem x_bm0 {T : String} {r : V → List V → Hp → VK → Prop} {to : TE} (q : to σ H fun x H1 => tyV K T x H1 ∧ r x [] H1 Q) : tBM0 K T r to σ H Q := q
theorem x_ite1 {A B : Prop} (q : A) : if true = true then A else B := iteT q
theorem x_iteA {c : Bool} {A B : Prop} (h : c = true) (q : A) : if c = true then A else B := by rw [h]; exact iteT q
theorem x_iteB {c : Bool} {A B : Prop} (h : c = false) (q : B) : if c = true then A else B := by rw [h]; exact iteF q
theorem x_ite0 {A B : Prop} (q : B) : if false = true then A else B := iteF q
/-! ### values -/
theorem x_addi {i j : Int} (q : Q (.int (i + j)) H) : rAddU K (.int i) (.int j) H Q := .inl (.inl ⟨i, j, rfl, rfl, q⟩)
theorem x_addl {l b : Addr} {xs zs : List V} (h1 : H l = some (.lst xs)) (h2 : H b = some (.lst zs)) (hz : xs.length + zs.length ≤ 100000) (q : ∀ p H', Ex H H' → H p = none → H' p = some (.lst (xs ++ zs)) → Q (.ref p) H') : rAddU K (.ref l) (.ref b) H Q :=
  .inl (.inr ⟨l, b, xs, zs, rfl, rfl, h1, h2, Nat.le_trans hz (by decide), fun p hp => q p _ (Ex.new hp) hp upd_same⟩)
theorem x_addt {x y : V} {ds es : List PyData} (h1 : Wt K H x (.tuple ds)) (h2 : Wt K H y (.tuple es)) (hz : ds.length + es.length ≤ 100000) (q : ∀ v H', Ex H H' → Wt K H' v (.tuple (ds ++ es)) → Q v H') : rAddU K x y H Q := by
  cases h1 with
  | @tup a xs _ ea wa =>
  cases h2 with
  | @tup b ys _ eb wb =>
  refine .inr ⟨a, b, xs, ys, rfl, rfl, SqT.of ea, SqT.of eb, by rw [wa.len, wb.len]; exact Nat.le_trans hz (by decide), fun e => ?_, fun _ e => ?_, fun _ _ p hp => ?_⟩
  · subst e
    cases wa
    exact q _ H (Ex.refl H) (.tup eb wb)
  · subst e
    cases wb
    exact q _ H (Ex.refl H) (.tup ea (by rw [List.append_nil]; exact wa))
  · exact q _ _ (Ex.new hp) (.tup upd_same ((wa.append wb).ex (Ex.new hp)))
theorem x_muli {i j : Int} (hc : CMul i j) (q : Q (.int (i * j)) H) : rMulU (.int i) (.int j) H Q := .inl ⟨i, j, rfl, rfl, hc, q⟩
theorem x_mull {l : Addr} {k : Int} {xs : List V} (h1 : H l = some (.lst xs)) (h0 : 0 ≤ k) (hz : xs.length * k.toNat ≤ 100000) (hk : k ≤ 100000) (q : ∀ p H', Ex H H' → H p = none → H' p = some (.lst (List.replicate k.toNat xs).flatten) → Q (.ref p) H') : rMulU (.ref l) (.int k) H Q :=
  .inr ⟨l, k, xs, rfl, rfl, h1, by omega, by omega, Nat.le_trans hz (by decide), fun p hp => q p _ (Ex.new hp) hp upd_same⟩
theorem x_i0 {g : Int → Int → V} {i j : Int} (q : Q (g i j) H) : rI0 g (.int i) (.int j) H Q := ⟨i, j, rfl, rfl, q⟩
theorem x_iC {C : Int → Int → Prop} {g : Int → Int → V} {i j : Int} (hc : C i j) (q : Q (g i j) H) : rI C g (.int i) (.int j) H Q := ⟨i, j, rfl, rfl, hc, q⟩
theorem x_eqi {i j : Int} (q : Q (.bl (decide (i = j))) H) : rEqU K (.int i) (.int j) H Q := .inl ⟨rfl, by rw [show decide (V.int i = V.int j) = decide (i = j) by simp]; exact q⟩
theorem x_eqs {i j : Str} (q : Q (.bl (decide (i = j))) H) : rEqU K (.str i) (.str j) H Q := .inl ⟨rfl, by rw [show decide (V.str i = V.str j) = decide (i = j) by simp]; exact q⟩
theorem x_eqb {i j : Bool} (q : Q (.bl (decide (i = j))) H) : rEqU K (.bl i) (.bl j) H Q := .inl ⟨rfl, by rw [show decide (V.bl i = V.bl j) = decide (i = j) by simp]; exact q⟩
theorem x_nei {i j : Int} (q : Q (.bl (!decide (i = j))) H) : rNeU K (.int i) (.int j) H Q := .inl ⟨rfl, by rw [show decide (V.int i = V.int j) = decide (i = j) by simp]; exact q⟩
theorem x_lti {i j : Int} (q : Q (.bl (decide (i < j))) H) : rLtU K (.int i) (.int j) H Q := .inl ⟨i, j, rfl, rfl, q⟩
theorem x_isN {x : V} (q : Q (.bl (decide (x = .non))) H) : rIsN x .non H Q := ⟨rfl, q⟩
theorem x_notN {x : V} (q : Q (.bl (!decide (x = .non))) H) : rNotN x .non H Q := ⟨rfl, q⟩
theorem x_pair {v w : V} {q : V → V → Prop} (h : q v w) : kPair [v, w] q := ⟨v, w, rfl, h⟩
theorem x_tri {u v w : V} {q : V → V → V → Prop} (h : q u v w) : kTri [u, v, w] q := ⟨u, v, w, rfl, h⟩
theorem x_int {i : Int} (q : Q (.int i) H) : rInt [.int i] H Q := .inl ⟨i, rfl, q⟩
theorem x_intb {b : Bool} (q : Q (.int (if b then 1 else 0)) H) : rInt [.bl b] H Q := .inr ⟨b, rfl, q⟩
theorem x_abs {i : Int} (q : Q (.int (if i < 0 then -i else i)) H) : rAbs [.int i] H Q := ⟨i, rfl, q⟩
theorem x_kfld {a C dx : Addr} {fs : List (Str × V)} {f : Str} {v : V} (h : H a = some (.ins C dx fs)) (c : Cls K C) (n : NoAttr K C f) (l : fs.lookup f = some v) (q : Q v H) : kFld K f (.ref a) H Q := ⟨a, C, dx, fs, v, rfl, h, c, n, l, q⟩
theorem x_ksfld {a C dx : Addr} {fs gs : List (Str × V)} {f : Str} {y : V} {q : Hp → Prop} (h : H a = some (.ins C dx fs)) (c : Cls K C) (n : NoAttr K C f) (l : fs.length < 1000) (e : putF f y fs = gs) (k : ∀ H', Go [a] H H' → H' a = some (.ins C dx gs) → q H') : kSfld K f (.ref a) y H q :=
  ⟨a, C, dx, fs, rfl, h, c, n, l, k _ (Go.set h (by intro xs z; cases z)) (by rw [upd_same, e])⟩
theorem x_meth {C : Addr} {m : Str} {ta : TE} {t : TA} {sp : Sp} {dvs : List V} {E : XK} (q : ta σ H fun x H1 => kMeth C m x H1 (t σ H1 fun vs H2 => sp (x :: (vs ++ dvs)) H2 Q E)) : tMeth C m sp dvs E ta t σ H Q := by
  refine cast ?_ q
  unfold tMeth kMeth
  rfl
theorem x_kmeth {a C dx : Addr} {m : Str} {fs : List (Str × V)} {q : Prop} (h : H a = some (.ins C dx fs)) (l : fs.lookup m = none) (k : q) : kMeth C m (.ref a) H q := ⟨a, dx, fs, rfl, h, l, k⟩
theorem x_make {C : Addr} {t : TA} {sp : Sp} {E : XK} (q : t σ H fun vs H1 => kMake C sp E vs H1 Q) : tMake C sp [] E t σ H Q := by
  unfold tMake
  have e : (fun (vs : List V) H1 => kMake C sp E vs H1 Q) = fun vs H1 => ∀ x dx, H1 x = none → H1 dx = none → dx ≠ x → sp (.ref x :: (vs ++ [])) (upd (upd H1 dx (.own x)) x (.ins C dx [])) (fun v H2 => v = .non ∧ Q (.ref x) H2) E := by
    funext vs H1
    unfold kMake
    rw [List.append_nil]
  rw [← e]
  exact q
theorem x_eqd {x y : V} {d e : PyData} (h1 : Wt K H x d) (h2 : Wt K H y e) (s1 : SeqAt.shaped d = true) (s2 : SeqAt.shaped e = true) (q : Q (.bl (PyData.eqv d e)) H) : rEqU K x y H Q :=
  .inr ⟨d, e, h1.dp (SeqAt.canLay_of_shaped s1), h2.dp (SeqAt.canLay_of_shaped s2), s1, s2, q⟩
theorem x_ned {x y : V} {d e : PyData} (h1 : Wt K H x d) (h2 : Wt K H y e) (s1 : SeqAt.shaped d = true) (s2 : SeqAt.shaped e = true) (q : Q (.bl (!PyData.eqv d e)) H) : rNeU K x y H Q :=
  .inr ⟨d, e, h1.dp (SeqAt.canLay_of_shaped s1), h2.dp (SeqAt.canLay_of_shaped s2), s1, s2, q⟩
/-- an item of a list that stands at l -/
theorem x_ixl {l : Addr} {xs : List V} {i : Int} {n : Nat} {v : V} (h : H l = some (.lst xs)) (hi : i = (n : Int)) (hv : xs[n]? = some v) (q : Q v H) : rIxU K (.ref l) (.int i) H Q :=
  .inl ⟨l, xs, i, v, rfl, rfl, SqL.of h, by rw [hi]; exact atI_nat hv, q⟩
theorem x_ixt {l : Addr} {xs : List V} {i : Int} {n : Nat} {v : V} (h : H l = some (.tup xs)) (hi : i = (n : Int)) (hv : xs[n]? = some v) (q : Q v H) : rIxU K (.ref l) (.int i) H Q :=
  .inr ⟨l, xs, i, v, rfl, rfl, SqT.of h, by rw [hi]; exact atI_nat hv, q⟩
/-- an item of data -/
theorem x_ixd {x : V} {ds : List PyData} {i : Int} {n : Nat} {d : PyData} (h : Wt K H x (.tuple ds)) (hi : i = (n : Int)) (hd : ds[n]? = some d) (q : ∀ v, Wt K H v d → Q v H) : rIxU K x (.int i) H Q := by
  cases h with
  | @tup a xs _ ea wa =>
  obtain ⟨v, hv, wv⟩ := wa.getD hd
  exact x_ixt ea hi hv (q v wv)
theorem x_ixdl {x : V} {ds : List PyData} {i : Int} {n : Nat} {d : PyData} (h : Wt K H x (.list ds)) (hi : i = (n : Int)) (hd : ds[n]? = some d) (q : ∀ v, Wt K H v d → Q v H) : rIxU K x (.int i) H Q := by
  cases h with
  | @lst a xs _ ea wa =>
  obtain ⟨v, hv, wv⟩ := wa.getD hd
  exact x_ixl ea hi hv (q v wv)
/-- a tuple that is made: of data, or as it stands -/
theorem x_mkt {vs : List V} {ds : List PyData} (h : WtL K H vs ds) (q : ∀ v H', Ex H H' → Wt K H' v (.tuple ds) → Q v H') (hl : ds.length ≤ 100000 := by first | decide | simp) : mkT vs H Q :=
  ⟨by rw [h.len]; exact Nat.le_trans hl (by decide), fun p hp => q _ _ (Ex.new hp) (.tup upd_same (h.ex (Ex.new hp)))⟩
theorem x_mkr {vs : List V} (q : ∀ p H', Ex H H' → H p = none → H' p = some (.tup vs) → Q (.ref p) H') (hl : vs.length ≤ 100000 := by first | decide | simp) : mkT vs H Q :=
  ⟨Nat.le_trans hl (by decide), fun p hp => q p _ (Ex.new hp) hp upd_same⟩
theorem x_mkl {vs : List V} (q : ∀ p H', Ex H H' → H p = none → H' p = some (.lst vs) → Q (.ref p) H') (hl : vs.length ≤ 100000 := by first | decide | simp) : mkL vs H Q :=
  ⟨Nat.le_trans hl (by decide), fun p hp => q p _ (Ex.new hp) hp upd_same⟩
theorem x_lenl {l : Addr} {xs : List V} (h : H l = some (.lst xs)) (q : Q (.int (xs.length : Int)) H) : rLen K [.ref l] H Q := ⟨_, xs.length, rfl, .inl ⟨xs, SqL.of h, rfl⟩, q⟩
theorem x_lent {l : Addr} {xs : List V} (h : H l = some (.tup xs)) (q : Q (.int (xs.length : Int)) H) : rLen K [.ref l] H Q := ⟨_, xs.length, rfl, .inr ⟨xs, SqT.of h, rfl⟩, q⟩
theorem x_lend {x : V} {ds : List PyData} (h : Wt K H x (.tuple ds)) (q : Q (.int (ds.length : Int)) H) : rLen K [x] H Q := by
  cases h with
  | @tup a xs _ ea wa => exact x_lent ea (by rw [wa.len]; exact q)
theorem x_lendl {x : V} {ds : List PyData} (h : Wt K H x (.list ds)) (q : Q (.int (ds.length : Int)) H) : rLen K [x] H Q := by
  cases h with
  | @lst a xs _ ea wa => exact x_lenl ea (by rw [wa.len]; exact q)
/-- tuple(x), list(x) -/
theorem x_tupl {l : Addr} {xs : List V} (h : H l = some (.lst xs)) (q : ∀ p H', Ex H H' → H p = none → H' p = some (.tup xs) → Q (.ref p) H') : rTuple K [.ref l] H Q := ⟨l, xs, rfl, .inl ⟨SqL.of h, fun p hp => q p _ (Ex.new hp) hp upd_same⟩⟩
theorem x_tupt {l : Addr} {xs : List V} (h : H l = some (.tup xs)) (q : Q (.ref l) H) : rTuple K [.ref l] H Q := ⟨l, xs, rfl, .inr ⟨SqT.of h, q⟩⟩
theorem x_lstt {l : Addr} {xs : List V} (h : H l = some (.tup xs)) (q : ∀ p H', Ex H H' → H p = none → H' p = some (.lst xs) → Q (.ref p) H') : rList K [.ref l] H Q := ⟨l, xs, rfl, .inr (SqT.of h), fun p hp => q p _ (Ex.new hp) hp upd_same⟩
theorem x_lstl {l : Addr} {xs : List V} (h : H l = some (.lst xs)) (q : ∀ p H', Ex H H' → H p = none → H' p = some (.lst xs) → Q (.ref p) H') : rList K [.ref l] H Q := ⟨l, xs, rfl, .inl (SqL.of h), fun p hp => q p _ (Ex.new hp) hp upd_same⟩
/-- isinstance(x, (list, tuple)), (int, str) -/
theorem x_isiLT {x : V} {d : PyData} {p : Addr} (h : Wt K H x d) (hp : H p = some (.tup [.ty "list", .ty "tuple"])) (q : Q (.bl (isLst d || isTup d)) H) : rIsiT K [x, .ref p] H Q := by
  have c : Paired ClsV [V.ty "list", V.ty "tuple"] [Value.type "list", Value.type "tuple"] := .cons (.ty _) (.cons (.ty _) .nil)
  cases h with
  | non => exact ⟨_, p, _, _, _, _, rfl, hp, c, .base .non, kitAny_cons (b := false) (kit_ty (by decide +kernel)) (fun _ => kitAny_cons (b := false) (kit_ty (by decide +kernel)) (fun _ => kitAny_nil) (fun e => by cases e)) (fun e => by cases e), q⟩
  | bl b => exact ⟨_, p, _, _, _, _, rfl, hp, c, .base (.bl b), kitAny_cons (b := false) (kit_ty (by decide +kernel)) (fun _ => kitAny_cons (b := false) (kit_ty (by decide +kernel)) (fun _ => kitAny_nil) (fun e => by cases e)) (fun e => by cases e), q⟩
  | int b => exact ⟨_, p, _, _, _, _, rfl, hp, c, .base (.int b), kitAny_cons (b := false) (kit_ty (by decide +kernel)) (fun _ => kitAny_cons (b := false) (kit_ty (by decide +kernel)) (fun _ => kitAny_nil) (fun e => by cases e)) (fun e => by cases e), q⟩
  | str b => exact ⟨_, p, _, _, _, _, rfl, hp, c, .base (.str b), kitAny_cons (b := false) (kit_ty (by decide +kernel)) (fun _ => kitAny_cons (b := false) (kit_ty (by decide +kernel)) (fun _ => kitAny_nil) (fun e => by cases e)) (fun e => by cases e), q⟩
  | tup e r => exact ⟨_, p, _, _, _, _, rfl, hp, c, .base (.tup e), kitAny_cons (b := false) (kit_ty (by decide +kernel)) (fun _ => kitAny_cons (b := true) (r := true) (kit_ty (by decide +kernel)) (fun e => by cases e) (fun _ => rfl)) (fun e => by cases e), q⟩
  | lst e r => exact ⟨_, p, _, _, _, _, rfl, hp, c, .base (.lst e), kitAny_cons (b := true) (r := true) (kit_ty (by decide +kernel)) (fun e => by cases e) (fun _ => rfl), q⟩
  | obj e k => exact ⟨_, p, _, _, _, _, rfl, hp, c, .base (.ins e k.cl k.ha k.hn k.htk k.hm), kitAny_cons (b := false) k.kL (fun _ => kitAny_cons (b := false) k.kT (fun _ => kitAny_nil) (fun e => by cases e)) (fun e => by cases e), q⟩
theorem x_isiIS {x : V} {d : PyData} {p : Addr} (h : Wt K H x d) (hp : H p = some (.tup [.ty "int", .ty "str"])) (q : Q (.bl (isIntg d || isStr d)) H) : rIsiT K [x, .ref p] H Q := by
  have c : Paired ClsV [V.ty "int", V.ty "str"] [Value.type "int", Value.type "str"] := .cons (.ty _) (.cons (.ty _) .nil)
  cases h with
  | non => exact ⟨_, p, _, _, _, _, rfl, hp, c, .base .non, kitAny_cons (b := false) (kit_ty (by decide +kernel)) (fun _ => kitAny_cons (b := false) (kit_ty (by decide +kernel)) (fun _ => kitAny_nil) (fun e => by cases e)) (fun e => by cases e), q⟩
  | bl b => exact ⟨_, p, _, _, _, _, rfl, hp, c, .base (.bl b), kitAny_cons (b := true) (r := true) (kit_ty (by decide +kernel)) (fun e => by cases e) (fun _ => rfl), q⟩
  | int b => exact ⟨_, p, _, _, _, _, rfl, hp, c, .base (.int b), kitAny_cons (b := true) (r := true) (kit_ty (by decide +kernel)) (fun e => by cases e) (fun _ => rfl), q⟩
  | str b => exact ⟨_, p, _, _, _, _, rfl, hp, c, .base (.str b), kitAny_cons (b := false) (kit_ty (by decide +kernel)) (fun _ => kitAny_cons (b := true) (r := true) (kit_ty (by decide +kernel)) (fun e => by cases e) (fun _ => rfl)) (fun e => by cases e), q⟩
  | tup e r => exact ⟨_, p, _, _, _, _, rfl, hp, c, .base (.tup e), kitAny_cons (b := false) (kit_ty (by decide +kernel)) (fun _ => kitAny_cons (b := false) (kit_ty (by decide +kernel)) (fun _ => kitAny_nil) (fun e => by cases e)) (fun e => by cases e), q⟩
  | lst e r => exact ⟨_, p, _, _, _, _, rfl, hp, c, .base (.lst e), kitAny_cons (b := false) (kit_ty (by decide +kernel)) (fun _ => kitAny_cons (b := false) (kit_ty (by decide +kernel)) (fun _ => kitAny_nil) (fun e => by cases e)) (fun e => by cases e), q⟩
  | obj e k => exact ⟨_, p, _, _, _, _, rfl, hp, c, .base (.ins e k.cl k.ha k.hn k.htk k.hm), kitAny_cons (b := false) k.kI (fun _ => kitAny_cons (b := false) k.kS (fun _ => kitAny_nil) (fun e => by cases e)) (fun e => by cases e), q⟩
theorem ex_at {H H' : Hp} {a : Addr} {o : HO} (e : Ex H H') (h : H a = some o) : H' a = some o := e a o h
theorem ex_wt {H H' : Hp} {v : V} {d : PyData} (e : Ex H H') (h : Wt K H v d) : Wt K H' v d := h.ex e
theorem ex_wl {H H' : Hp} {v : List V} {d : List PyData} (e : Ex H H') (h : WtL K H v d) : WtL K H' v d := h.ex e
end
end Y
/-! part A7 -/
/-! Loops and comprehensions in short. -/
namespace Y
open PySem L2
section
variable {K : PySem.W.Frag} {σ : L2.St} {H : Hp} {Q : VK} {D : Ends} {g : TG} {tb : TS} {tl te : TE} {tt : TT} {vs : List Nat} {a : Addr} {xs : List V}
def kFor (J : It) (g : TG) (tb : TS) (D : Ends) (σ : L2.St) (H : Hp) : Prop := ∃ W : Nat → Nat → L2.St → Hp → Prop, (∃ m, W 0 m σ H) ∧ ∀ i m σ H, W i m σ H →
  (J.stop i H ∧ D.nx σ H) ∨ (J.go i H ∧ ∃ N : L2.St → Hp → Prop, (∀ σ' H', N σ' H' → ∃ m', m' < m ∧ W (i + 1) m' σ' H') ∧ ∀ x H', J.yld i H x H' → g x σ H' fun σ2 H2 => tb { D with nx := N, ct := N, bk := D.nx } σ2 H2)
def kForL (K : PySem.W.Frag) (g : TG) (tb : TS) (D : Ends) (σ : L2.St) (x : V) (H : Hp) : Prop := ∃ a, x = .ref a ∧ (∃ xs, SqL K H a xs) ∧ kFor (Itl K a) g tb D σ H
def kForT (K : PySem.W.Frag) (g : TG) (tb : TS) (D : Ends) (σ : L2.St) (x : V) (H : Hp) : Prop := ∃ a, x = .ref a ∧ (∃ xs, SqT K H a xs) ∧ kFor (Itt K a) g tb D σ H
def kForR (g : TG) (tb : TS) (D : Ends) (σ : L2.St) (vs : List V) (H : Hp) : Prop := ∃ j : Int, vs = [.int j] ∧ -(2 ^ 62) ≤ j ∧ j < 2 ^ 62 ∧ kFor (Itr 0 j.toNat) g tb D σ H
def kForR2 (g : TG) (tb : TS) (D : Ends) (σ : L2.St) (vs : List V) (H : Hp) : Prop := ∃ i j : Int, vs = [.int i, .int j] ∧ (-(2 ^ 62) ≤ i ∧ i < 2 ^ 62 ∧ -(2 ^ 62) ≤ j ∧ j < 2 ^ 62) ∧ kFor (Itr i (j - i).toNat) g tb D σ H
theorem x_forL (q : tl σ H fun x H1 => kForL K g tb D σ x H1) : tFor (iList K tl) g tb D σ H := q
theorem x_forT (q : tl σ H fun x H1 => kForT K g tb D σ x H1) : tFor (iTup K tl) g tb D σ H := q
theorem x_forR {ta : TA} (q : ta σ H fun vs H1 => kForR g tb D σ vs H1) : tFor (iRng1 ta) g tb D σ H := q
theorem x_forR2 {ta : TA} (q : ta σ H fun vs H1 => kForR2 g tb D σ vs H1) : tFor (iRng2 ta) g tb D σ H := q
theorem y_forL (Pv : Nat → L2.St → Hp → Prop) (h : H a = some (.lst xs)) (h0 : Pv 0 σ H) (hl : ∀ i σ H, Pv i σ H → H a = some (.lst xs))
    (hs : ∀ i x σ H, xs[i]? = some x → Pv i σ H → g x σ H fun σ2 H2 => tb { D with nx := Pv (i + 1), ct := Pv (i + 1), bk := D.nx } σ2 H2) (hd : ∀ σ H, Pv xs.length σ H → D.nx σ H) : kForL K g tb D σ (.ref a) H :=
  ⟨a, rfl, ⟨xs, SqL.of h⟩, for_list Pv h0 (fun i σ H _ p => SqL.of (hl i σ H p)) hs hd⟩
theorem y_forT (Pv : Nat → L2.St → Hp → Prop) (h : H a = some (.tup xs)) (h0 : Pv 0 σ H) (hl : ∀ i σ H, Pv i σ H → H a = some (.tup xs))
    (hs : ∀ i x σ H, xs[i]? = some x → Pv i σ H → g x σ H fun σ2 H2 => tb { D with nx := Pv (i + 1), ct := Pv (i + 1), bk := D.nx } σ2 H2) (hd : ∀ σ H, Pv xs.length σ H → D.nx σ H) : kForT K g tb D σ (.ref a) H :=
  ⟨a, rfl, ⟨xs, SqT.of h⟩, for_tup Pv h0 (fun i σ H _ p => SqT.of (hl i σ H p)) hs hd⟩
theorem y_forR (n : Nat) (Pv : Nat → L2.St → Hp → Prop) (hn : n ≤ 1000000) (h0 : Pv 0 σ H)
    (hs : ∀ i σ H, i < n → Pv i σ H → g (.int (i : Int)) σ H fun σ2 H2 => tb { D with nx := Pv (i + 1), ct := Pv (i + 1), bk := D.nx } σ2 H2) (hd : ∀ σ H, Pv n σ H → D.nx σ H) : kForR g tb D σ [.int (n : Int)] H :=
  ⟨(n : Int), rfl, by omega, by omega, for_range (lo := 0) (n := (n : Int).toNat) (fun i σ H => Pv i σ H) h0 (fun i σ H hi p => by
    have e : (0 : Int) + (i : Int) = (i : Int) := by omega
    rw [e]
    exact hs i σ H (by simpa using hi) p) (fun σ H p => hd σ H (by simpa using p))⟩
theorem y_forR2 (lo n : Nat) (Pv : Nat → L2.St → Hp → Prop) {hi : Int} (e : hi = (lo : Int) + n) (hn : lo + n ≤ 1000000) (h0 : Pv 0 σ H)
    (hs : ∀ i σ H, i < n → Pv i σ H → g (.int ((lo + i : Nat) : Int)) σ H fun σ2 H2 => tb { D with nx := Pv (i + 1), ct := Pv (i + 1), bk := D.nx } σ2 H2) (hd : ∀ σ H, Pv n σ H → D.nx σ H) : kForR2 g tb D σ [.int (lo : Int), .int hi] H := by
  subst e
  have en : ((lo : Int) + n - lo).toNat = n := by omega
  refine ⟨(lo : Int), (lo : Int) + n, rfl, ⟨by omega, by omega, by omega, by omega⟩, ?_⟩
  rw [en]
  exact for_range (lo := (lo : Int)) (n := n) Pv h0 (fun i σ H hi p => by
    have e : (lo : Int) + (i : Int) = ((lo + i : Nat) : Int) := by omega
    rw [e]
    exact hs i σ H hi p) hd
/-! ### comprehensions -/
def kLc (J : It) (g : TG) (tt : TT) (te : TE) (vs : List Nat) (σ : L2.St) (H1 : Hp) (Q : VK) : Prop := ∀ D, H1 D = none → ∃ W : Nat → Nat → Hp → Prop, (∃ m, W 0 m (upd H1 D (.lst []))) ∧ ∀ i m H, W i m H →
  (J.stop i H ∧ Q (.ref D) H) ∨ (J.go i H ∧ ∃ Nx : Hp → Prop, (∀ H', Nx H' → ∃ m', m' < m ∧ W (i + 1) m' H') ∧ ∀ x H', J.yld i H x H' → g x (wipe σ vs) H' fun σ2 H2 => wipe σ2 vs = wipe σ vs ∧ tt σ2 H2 fun b H3 =>
    if b = true then te σ2 H3 fun y H4 => ∃ acc, H4 D = some (.lst acc) ∧ acc.length < sizeLine ∧ Nx (upd H4 D (.lst (acc ++ [y]))) else Nx H3)
def kLcL (K : PySem.W.Frag) (g : TG) (tt : TT) (te : TE) (vs : List Nat) (σ : L2.St) (x : V) (H : Hp) (Q : VK) : Prop := ∃ a, x = .ref a ∧ (∃ xs, SqL K H a xs) ∧ kLc (Itl K a) g tt te vs σ H Q
def kLcT (K : PySem.W.Frag) (g : TG) (tt : TT) (te : TE) (vs : List Nat) (σ : L2.St) (x : V) (H : Hp) (Q : VK) : Prop := ∃ a, x = .ref a ∧ (∃ xs, SqT K H a xs) ∧ kLc (Itt K a) g tt te vs σ H Q
def kLcR (g : TG) (tt : TT) (te : TE) (vs : List Nat) (σ : L2.St) (us : List V) (H : Hp) (Q : VK) : Prop := ∃ j : Int, us = [.int j] ∧ -(2 ^ 62) ≤ j ∧ j < 2 ^ 62 ∧ kLc (Itr 0 j.toNat) g tt te vs σ H Q
theorem x_lcL (q : tl σ H fun x H1 => kLcL K g tt te vs σ x H1 Q) : tLc (iList K tl) g tt te vs σ H Q := q
theorem x_lcT (q : tl σ H fun x H1 => kLcT K g tt te vs σ x H1 Q) : tLc (iTup K tl) g tt te vs σ H Q := q
theorem x_lcR {ta : TA} (q : ta σ H fun us H1 => kLcR g tt te vs σ us H1 Q) : tLc (iRng1 ta) g tt te vs σ H Q := q
/-- one turn of a comprehension: y is appended (c), or nothing -/
def turnLc (g : TG) (tt : TT) (te : TE) (vs : List Nat) (σ : L2.St) (x : V) (H : Hp) (ok : V → Hp → Prop) (no : Hp → Prop) : Prop :=
  g x (wipe σ vs) H fun σ2 H2 => wipe σ2 vs = wipe σ vs ∧ tt σ2 H2 fun b H3 => if b = true then te σ2 H3 ok else no H3
/-- what the loop knows: the list at E holds acc, of which R i acc is known; S: what the turns may write; J: what they keep -/
structure LcI (S : List Addr) (J : Hp → Prop) (R : Nat → List V → Hp → Prop) (E : Addr) (H0 : Hp) (i : Nat) (H : Hp) : Prop where
  go : Go S H0 H
  at_ : ∃ acc, H E = some (.lst acc) ∧ acc.length ≤ i ∧ R i acc H
  j : J H
theorem lc_turn {S : List Addr} {J : Hp → Prop} {R : Nat → List V → Hp → Prop} {E : Addr} {H0 H : Hp} {i n : Nat} {x : V} (hn : n ≤ 100000) (hi : i < n) (nE : H0 E = none) (hS : ∀ s ∈ S, H0 s ≠ none)
    (mR : ∀ i acc H H', Go [E] H H' → R i acc H → R i acc H') (mJ : ∀ H H', Go [E] H H' → J H → J H')
    (w : LcI S J R E H0 i H)
    (h : ∀ acc, H E = some (.lst acc) → R i acc H → J H → turnLc g tt te vs σ x H (fun y H4 => Go S H H4 ∧ J H4 ∧ R (i + 1) (acc ++ [y]) H4) (fun H4 => Go S H H4 ∧ J H4 ∧ R (i + 1) acc H4))
    (mono : ∀ ok ok' no no', (∀ y H, ok y H → ok' y H) → (∀ H, no H → no' H) → turnLc g tt te vs σ x H ok no → turnLc g tt te vs σ x H ok' no') :
    turnLc g tt te vs σ x H (fun y H4 => ∃ acc, H4 E = some (.lst acc) ∧ acc.length < sizeLine ∧ LcI S J R E H0 (i + 1) (upd H4 E (.lst (acc ++ [y])))) (fun H4 => LcI S J R E H0 (i + 1) H4) := by
  obtain ⟨acc, hE, hl, r⟩ := w.at_
  have nS : E ∉ S := fun z => hS E z nE
  refine mono _ _ _ _ (fun y H4 ⟨g4, j4, r4⟩ => ?_) (fun H4 ⟨g4, j4, r4⟩ => ?_) (h acc hE r w.j)
  · have hE4 : H4 E = some (.lst acc) := g4.keep E _ nS hE
    have gE : Go [E] H4 (upd H4 E (.lst (acc ++ [y]))) := Go.set hE4 (by intro xs z; cases z)
    refine ⟨acc, hE4, Nat.lt_of_le_of_lt hl (Nat.lt_of_lt_of_le (Nat.lt_of_lt_of_le hi hn) (by decide)), ⟨⟨fun b o m e => ?_, fun b xs e => ?_⟩, ⟨acc ++ [y], upd_same, by simp; omega, mR _ _ _ _ gE r4⟩, mJ _ _ gE j4⟩⟩
    · rw [upd_ne (ne_of_none e nE)]
      exact (w.go.trans g4).keep b o m e
    · rw [upd_ne (ne_of_none e nE)]
      exact (w.go.trans g4).tup b xs e
  · exact ⟨w.go.trans g4, ⟨acc, g4.keep E _ nS hE, Nat.le_succ_of_le hl, r4⟩, j4⟩
theorem lc_start {S : List Addr} {J : Hp → Prop} {R : Nat → List V → Hp → Prop} {E : Addr} (nE : H E = none) (j : J H) (mJ : ∀ H', Ex H H' → J H → J H') (r : ∀ H', Ex H H' → R 0 [] H') : LcI S J R E H 0 (upd H E (.lst [])) :=
  ⟨(Ex.new nE).go, ⟨[], upd_same, Nat.le_refl _, r _ (Ex.new nE)⟩, mJ _ (Ex.new nE) j⟩
end
end Y
/-! part A8 -/
/-! Comprehensions whose items are data, in one rule each. -/
namespace Y
open PySem L2
section
variable {K : PySem.W.Frag} {σ : L2.St} {H : Hp} {Q : VK} {D : Ends} {g : TG} {tt : TT} {te : TE} {vs : List Nat} {a : Addr} {xs : List V}
/-- what a comprehension knows behind i turns -/
structure LcK (K : PySem.W.Frag) (S : List Addr) (J : Hp → Prop) (Pd : Nat → List PyData → Prop) (E : Addr) (H0 : Hp) (i : Nat) (H : Hp) : Prop where
  go : Go S H0 H
  at_ : ∃ acc ds, H E = some (.lst acc) ∧ WtL K H acc ds ∧ tupOnlyL ds = true ∧ acc.length ≤ i ∧ Pd i ds
  j : J H
def Keeps (H0 : Hp) (J : Hp → Prop) : Prop := ∀ E H1 H2, H0 E = none → Go [E] H1 H2 → J H1 → J H2
theorem keeps_true {H0 : Hp} : Keeps H0 fun _ => True := fun _ _ _ _ _ _ => trivial
theorem keeps_at {H0 : Hp} {b : Addr} {p : HO → Prop} (h : H0 b ≠ none) : Keeps H0 fun H => ∃ o, H b = some o ∧ p o := fun E H1 H2 n g ⟨o, e, q⟩ =>
  ⟨o, g.keep b o (fun z => h (by rw [List.mem_singleton.mp z]; exact n)) e, q⟩
theorem go_drop {S : List Addr} {E : Addr} {H0 H H' : Hp} (nE : H0 E = none) (g : Go S H0 H) (g' : Go [E] H H') : Go S H0 H' :=
  ⟨fun b o m e => g'.keep b o (fun z => by rw [List.mem_singleton.mp z, nE] at e; cases e) (g.keep b o m e), fun b xs e => g'.tup b xs (g.tup b xs e)⟩
theorem lck_start {S : List Addr} {J : Hp → Prop} {Pd : Nat → List PyData → Prop} {E : Addr} (nE : H E = none) (kJ : Keeps H J) (j : J H) (p0 : Pd 0 []) : LcK K S J Pd E H 0 (upd H E (.lst [])) :=
  ⟨(Ex.new nE).go, ⟨[], [], upd_same, .nil, rfl, Nat.le_refl _, p0⟩, kJ E H _ nE (Ex.new nE).go j⟩
theorem lck_snoc {S : List Addr} {J : Hp → Prop} {Pd : Nat → List PyData → Prop} {E : Addr} {H0 H4 : Hp} {i : Nat} {acc : List V} {ds : List PyData} {y : V} {d : PyData} (hn : i < 100000) (nE : H0 E = none) (kJ : Keeps H0 J)
    (go : Go S H0 H4) (hE : H4 E = some (.lst acc)) (hl : acc.length ≤ i) (w : WtL K H4 acc ds) (t : tupOnlyL ds = true) (j : J H4) (wy : Wt K H4 y d) (ty : tupOnly d = true) (p : Pd (i + 1) (ds ++ [d])) :
    ∃ acc, H4 E = some (.lst acc) ∧ acc.length < sizeLine ∧ LcK K S J Pd E H0 (i + 1) (upd H4 E (.lst (acc ++ [y]))) := by
  have gE : Go [E] H4 (upd H4 E (.lst (acc ++ [y]))) := Go.set hE (by intro xs z; cases z)
  have tt : tupOnlyL (ds ++ [d]) = true := by
    clear w p
    induction ds with
    | nil => simp [tupOnly.tupOnlyL, ty]
    | cons z r ih =>
      simp only [tupOnly.tupOnlyL, Bool.and_eq_true, List.cons_append] at t ⊢
      exact ⟨t.1, ih t.2⟩
  exact ⟨acc, hE, Nat.lt_of_le_of_lt hl (Nat.lt_of_lt_of_le hn (by decide)), go_drop nE go gE, ⟨acc ++ [y], ds ++ [d], upd_same, (w.append (.cons wy .nil)).go gE tt, tt, by simp; omega, p⟩, kJ E _ _ nE gE j⟩
theorem tupOnlyL_iff : ∀ {ds : List PyData}, tupOnlyL ds = true ↔ ∀ d ∈ ds, tupOnly d = true
  | [] => by simp [tupOnly.tupOnlyL]
  | d :: ds => by
    have ih := @tupOnlyL_iff ds
    show (tupOnly d && tupOnlyL ds) = true ↔ _
    rw [Bool.and_eq_true, ih]
    simp
/-- what one turn owes: y with its datum, or nothing -/
def Turn (K : PySem.W.Frag) (S : List Addr) (J : Hp → Prop) (Pd : Nat → List PyData → Prop) (i : Nat) (ds : List PyData) (H1 : Hp) (go : (V → Hp → Prop) → (Hp → Prop) → Prop) : Prop :=
  ∀ (ok : V → Hp → Prop) (no : Hp → Prop), (∀ y d H4, Go S H1 H4 → J H4 → Wt K H4 y d → tupOnly d = true → Pd (i + 1) (ds ++ [d]) → ok y H4) → (∀ H4, Go S H1 H4 → J H4 → Pd (i + 1) ds → no H4) → go ok no
theorem lck_turn {S : List Addr} {J : Hp → Prop} {Pd : Nat → List PyData → Prop} {E : Addr} {H0 H : Hp} {i n : Nat} {x : V} (hn : n ≤ 100000) (hi : i < n) (nE : H0 E = none) (hS : ∀ s ∈ S, H0 s ≠ none) (kJ : Keeps H0 J) (w : LcK K S J Pd E H0 i H)
    (h : ∀ ds, Go S H0 H → J H → Pd i ds → Turn K S J Pd i ds H (turnLc g tt te vs σ x H)) :
    turnLc g tt te vs σ x H (fun y H4 => ∃ acc, H4 E = some (.lst acc) ∧ acc.length < sizeLine ∧ LcK K S J Pd E H0 (i + 1) (upd H4 E (.lst (acc ++ [y])))) (fun H4 => LcK K S J Pd E H0 (i + 1) H4) := by
  obtain ⟨acc, ds, hE, wd, t, hl, p⟩ := w.at_
  have nS : E ∉ S := fun z => hS E z nE
  refine h ds w.go w.j p _ _ (fun y d H4 g4 j4 wy ty p4 => ?_) fun H4 g4 j4 p4 => ?_
  · exact lck_snoc (Nat.lt_of_lt_of_le hi hn) nE kJ (w.go.trans g4) (g4.keep E _ nS hE) hl (wd.go g4 t) t j4 wy ty p4
  · exact ⟨w.go.trans g4, ⟨acc, ds, g4.keep E _ nS hE, wd.go g4 t, t, Nat.le_succ_of_le hl, p4⟩, j4⟩
variable (S : List Addr) (J : Hp → Prop) (Pd : Nat → List PyData → Prop)
theorem y_lcT (h : H a = some (.tup xs)) (hn : xs.length ≤ 100000) (hS : ∀ s ∈ S, H s ≠ none) (kJ : Keeps H J) (j : J H) (p0 : Pd 0 [])
    (turn : ∀ i x H1 ds, xs[i]? = some x → Go S H H1 → J H1 → Pd i ds → Turn K S J Pd i ds H1 (turnLc g tt te vs σ x H1))
    (fin : ∀ E acc ds H', H E = none → Go S H H' → J H' → H' E = some (.lst acc) → WtL K H' acc ds → tupOnlyL ds = true → Pd xs.length ds → Q (.ref E) H') : kLcT K g tt te vs σ (.ref a) H Q := by
  refine ⟨a, rfl, ⟨xs, SqT.of h⟩, fun E nE => lc_tup (Qd := fun H' => Q (.ref E) H') (fun i H' => LcK K S J Pd E H i H') (lck_start nE kJ j p0) (fun i H' _ w => SqT.of (w.go.tup a xs h)) (fun i x H' hx w => ?_) fun H' w => ?_⟩
  · exact lck_turn hn (List.getElem?_eq_some_iff.mp hx).1 nE hS kJ w fun ds g j p => turn i x H' ds hx g j p
  · obtain ⟨acc, ds, hE, wd, t, hl, p⟩ := w.at_
    exact fin E acc ds H' nE w.go w.j hE wd t p
theorem y_lcL (h : H a = some (.lst xs)) (ha : a ∉ S) (hn : xs.length ≤ 100000) (hS : ∀ s ∈ S, H s ≠ none) (kJ : Keeps H J) (j : J H) (p0 : Pd 0 [])
    (turn : ∀ i x H1 ds, xs[i]? = some x → Go S H H1 → J H1 → Pd i ds → Turn K S J Pd i ds H1 (turnLc g tt te vs σ x H1))
    (fin : ∀ E acc ds H', H E = none → Go S H H' → J H' → H' E = some (.lst acc) → WtL K H' acc ds → tupOnlyL ds = true → Pd xs.length ds → Q (.ref E) H') : kLcL K g tt te vs σ (.ref a) H Q := by
  refine ⟨a, rfl, ⟨xs, SqL.of h⟩, fun E nE => lc_list (Qd := fun H' => Q (.ref E) H') (fun i H' => LcK K S J Pd E H i H') (lck_start nE kJ j p0) (fun i H' _ w => SqL.of (w.go.keep a _ ha h)) (fun i x H' hx w => ?_) fun H' w => ?_⟩
  · exact lck_turn hn (List.getElem?_eq_some_iff.mp hx).1 nE hS kJ w fun ds g j p => turn i x H' ds hx g j p
  · obtain ⟨acc, ds, hE, wd, t, hl, p⟩ := w.at_
    exact fin E acc ds H' nE w.go w.j hE wd t p
theorem y_lcR (n : Nat) (hn : n ≤ 100000) (hS : ∀ s ∈ S, H s ≠ none) (kJ : Keeps H J) (j : J H) (p0 : Pd 0 [])
    (turn : ∀ i H1 ds, i < n → Go S H H1 → J H1 → Pd i ds → Turn K S J Pd i ds H1 (turnLc g tt te vs σ (.int (i : Int)) H1))
    (fin : ∀ E acc ds H', H E = none → Go S H H' → J H' → H' E = some (.lst acc) → WtL K H' acc ds → tupOnlyL ds = true → Pd n ds → Q (.ref E) H') : kLcR g tt te vs σ [.int (n : Int)] H Q := by
  refine ⟨(n : Int), rfl, by omega, by omega, ?_⟩
  rw [Int.toNat_natCast]
  refine fun E nE => lc_range (Qd := fun H' => Q (.ref E) H') (fun i H' => LcK K S J Pd E H i H') (lck_start nE kJ j p0) (fun i H' hi w => ?_) fun H' w => ?_
  · have e : (0 : Int) + (i : Int) = (i : Int) := by omega
    rw [e]
    exact lck_turn hn hi nE hS kJ w fun ds g j p => turn i H' ds hi g j p
  · obtain ⟨acc, ds, hE, wd, t, hl, p⟩ := w.at_
    exact fin E acc ds H' nE w.go w.j hE wd t p
/-- the turn behind a name as target -/
theorem turn_name {i : Nat} {te : TE} {x : V} {ok : V → Hp → Prop} {no : Hp → Prop} (hw : wipe ((wipe σ vs).set i (some x)) vs = wipe σ vs) (q : te ((wipe σ vs).set i (some x)) H ok) : turnLc (gName i) tYes te vs σ x H ok no := ⟨hw, q⟩
theorem turn_nameT {i : Nat} {te : TE} {x : V} {ok : V → Hp → Prop} {no : Hp → Prop} (hw : wipe ((wipe σ vs).set i (some x)) vs = wipe σ vs) (q : tt ((wipe σ vs).set i (some x)) H fun b H3 => if b = true then te ((wipe σ vs).set i (some x)) H3 ok else no H3) : turnLc (gName i) tt te vs σ x H ok no := ⟨hw, q⟩
end
section
variable {K : PySem.W.Frag} {H : Hp} {Q : VK}
theorem bools_of : ∀ {acc : List V} {bs : List Bool}, WtL K H acc (bs.map .bool) → acc = bs.map V.bl
  | _, [], .nil => rfl
  | _, b :: bs, .cons (.bl _) r => by rw [bools_of r]; rfl
theorem ints_of : ∀ {acc : List V} {bs : List Int}, WtL K H acc (bs.map .int) → acc = bs.map V.int
  | _, [], .nil => rfl
  | _, b :: bs, .cons (.int _) r => by rw [ints_of r]; rfl
theorem x_all {l : Addr} {acc : List V} {bs : List Bool} (h : H l = some (.lst acc)) (w : WtL K H acc (bs.map .bool)) (q : Q (.bl (bs.all id)) H) : rAll K [.ref l] H Q := by
  rw [bools_of w] at h
  exact ⟨l, bs, rfl, SqL.of h, q⟩
end
end Y
/-! part M0 -/
/-! Plain: keys, pages, entries, slots; what the program's askings answer about data. -/
namespace Y
open PySem L2
/-! ### what is asked of data -/
def isNum : PyData → Bool
  | .int i => decide (0 ≤ i)
  | _ => false
def isRow (d : PyData) : Bool := isLst d || isTup d
def isKey : PyData → Bool
  | .tuple (.str _ :: r) => decide (r.length ≤ 2) && r.all isNum
  | _ => false
def isPlain : PyData → Bool
  | .list _ => false
  | .dict _ => false
  | .tuple xs => plainL xs
  | _ => true
where
  plainL : List PyData → Bool
  | [] => true
  | d :: ds => isPlain d && plainL ds
abbrev plainL := isPlain.plainL
def nodes : PyData → Nat
  | .tuple xs => nodesL xs + 1
  | _ => 1
where
  nodesL : List PyData → Nat
  | [] => 0
  | d :: ds => nodes d + nodesL ds
abbrev nodesL := nodes.nodesL
def aheadOk : Option PyData → PyData → Bool
  | none, _ => true
  | some a, k => PySem.W.dataLt a k
def isPageL : Option PyData → List PyData → Bool
  | _, [] => true
  | a, .tuple [k, v] :: r => isKey k && isPlain v && aheadOk a k && isPageL (some k) r
  | _, _ :: _ => false
def isPage : PyData → Bool
  | .tuple ds => isPageL none ds
  | _ => false
def isEntry : PyData → Bool
  | .tuple [a, b, c, p] => isNum a && isNum b && isNum c && isPage p
  | _ => false
def isSize (n : Int) : Bool := decide (0 ≤ n) && (decide (4 ≤ n) && decide (n ≤ 64)) && decide (n / 2 * 2 = n)
def slotFine (d : PyData) : Bool := PyData.eqv d (.tuple []) || isEntry d
def areSlots (ds : List PyData) : Bool := isSize ds.length && ds.all slotFine
/-! ### keys and pages -/
abbrev KeyT := List L2.Key
abbrev Page := List (KeyT × PyData)
def pairD (kv : KeyT × PyData) : PyData := .tuple [tkD kv.1, kv.2]
def pageD (p : Page) : PyData := .tuple (p.map pairD)
structure Entry where
  g : Nat
  l : Nat
  n : Nat
  p : Page
def entD (e : Entry) : PyData := .tuple [.int e.g, .int e.l, .int e.n, pageD e.p]
abbrev Slot := Option Entry
def slD : Slot → PyData
  | none => .tuple []
  | some e => entD e
def words : List Str := ["map", "cell", "floor", "", "a b"]
def digs : List Int := [0, 1, 2, 3, 4, 10 ^ 12]
def uni : List KeyT := words.flatMap fun x => [.inr x] :: digs.flatMap fun i => [.inr x, .inl i] :: digs.map fun j => [.inr x, .inl i, .inl j]
def valOk (d : PyData) : Bool := isPlain d && tupOnly d && d.canLay0 && decide (d.depth ≤ 3) && decide (nodes d ≤ 20)
def keyLt (a b : KeyT) : Bool := PySem.W.dataLt (tkD a) (tkD b)
structure PageOk (p : Page) : Prop where
  ks : ∀ kv ∈ p, kv.1 ∈ uni
  vs : ∀ kv ∈ p, valOk kv.2 = true
  up : p.Pairwise fun a b => keyLt a.1 b.1 = true
/-! ### keys in order -/
theorem toks_cons (x : L2.Key) (k : KeyT) : PySem.W.keyToksAll ((x :: k).map kD) = .inl 1 :: (PySem.W.keyToks (kD x) ++ PySem.W.keyToksAll (k.map kD)) := by
  rw [List.map_cons, PySem.W.toks_all_cons]
theorem toks_inj : ∀ {a b : KeyT}, PySem.W.keyToksAll (a.map kD) = PySem.W.keyToksAll (b.map kD) → a = b
  | [], [], _ => rfl
  | [], y :: b, h => by rw [toks_cons] at h; simp [PySem.W.keyToksAll] at h
  | x :: a, [], h => by rw [toks_cons] at h; simp [PySem.W.keyToksAll] at h
  | x :: a, y :: b, h => by
    rw [toks_cons, toks_cons] at h
    have h := (List.cons.inj h).2
    cases x with
    | inl i =>
      cases y with
      | inl j =>
        simp only [kD, PySem.W.keyToks, List.cons_append, List.nil_append, List.cons.injEq, Sum.inl.injEq] at h
        rw [h.1, toks_inj h.2]
      | inr j => simp [kD, PySem.W.keyToks] at h
    | inr i =>
      cases y with
      | inl j => simp [kD, PySem.W.keyToks] at h
      | inr j =>
        simp only [kD, PySem.W.keyToks, List.cons_append, List.nil_append, List.cons.injEq, Sum.inr.injEq] at h
        rw [PySem.W.str_of_cps h.1, toks_inj h.2]
theorem keyLt_irrefl (a : KeyT) : keyLt a a = false := PyProof.Rows.lex_irrefl _
theorem keyLt_trans {a b c : KeyT} (h1 : keyLt a b = true) (h2 : keyLt b c = true) : keyLt a c = true := PyProof.Rows.lex_trans _ _ _ h1 h2
theorem keyLt_total {a b : KeyT} (h1 : keyLt a b = false) (h2 : keyLt b a = false) : a = b := by
  have h := PyProof.Rows.lex_total _ _ h1 h2
  simp only [tkD, PySem.W.keyToks] at h
  exact toks_inj h
theorem dataLe_key (a b : KeyT) : PySem.W.dataLe false tkD a b = !keyLt b a := rfl
abbrev sortKs (ks : List KeyT) : List KeyT := ks.mergeSort (PySem.W.dataLe false tkD)
theorem sortKs_mem {ks : List KeyT} {k : KeyT} : k ∈ sortKs ks ↔ k ∈ ks := List.mem_mergeSort
theorem sortKs_up {ks : List KeyT} (h : ks.Nodup) : (sortKs ks).Pairwise fun a b => keyLt a b = true := by
  have t := PySem.W.sortLe_total (PyProof.Rows.listOrd PyProof.Rows.itemOrd) false fun (k : KeyT) => PySem.W.keyToks (tkD k)
  have hs : (sortKs ks).Pairwise fun a b => PySem.W.dataLe false tkD a b = true := List.pairwise_mergeSort (le := PySem.W.dataLe false tkD) (fun a b c h1 h2 => t.trans a b c h1 h2) (fun a b => Bool.or_eq_true_iff.mpr (t.total a b)) ks
  have hn : (sortKs ks).Nodup := (List.mergeSort_perm ks _).nodup_iff.mpr h
  exact (hs.and hn).imp fun {a b} ⟨h1, h2⟩ => by
    rw [dataLe_key] at h1
    cases e : keyLt a b with
    | true => rfl
    | false => exact absurd (keyLt_total e (by simpa using h1)) h2
/-! ### a page laid over another -/
def valP (kvs : Page) (k : KeyT) : PyData := ((kvs.find? fun kv => decide (kv.1 = k)).map (·.2)).getD .none
def putP (kvs : Page) (k : KeyT) (v : PyData) : Page :=
  if (kvs.any fun kv => decide (kv.1 = k)) = true then kvs.map (fun kv => if kv.1 = k then (kv.1, v) else kv) else kvs ++ [(k, v)]
def putAll (kvs : Page) (r : Page) : Page := r.foldl (fun a kv => putP a kv.1 kv.2) kvs
def sortP (kvs : Page) : Page := (sortKs (kvs.map (·.1))).map fun k => (k, valP kvs k)
def over (p r : Page) : Page := sortP (putAll (putAll [] p) r)
/-- a table: keys of their own, all fine -/
structure TabOk (t : Page) : Prop where
  ks : ∀ kv ∈ t, kv.1 ∈ uni
  vs : ∀ kv ∈ t, valOk kv.2 = true
  nd : (t.map (·.1)).Nodup
theorem TabOk.nil : TabOk [] := ⟨by simp, by simp, by simp⟩
theorem putP_keys (t : Page) (k : KeyT) (v : PyData) : (putP t k v).map (·.1) = if (t.any fun kv => decide (kv.1 = k)) = true then t.map (·.1) else t.map (·.1) ++ [k] := by
  unfold putP
  split
  · rw [List.map_map]
    refine List.map_congr_left fun kv _ => ?_
    simp only [Function.comp]
    split <;> rfl
  · simp
theorem TabOk.put {t : Page} {k : KeyT} {v : PyData} (h : TabOk t) (hk : k ∈ uni) (hv : valOk v = true) : TabOk (putP t k v) := by
  refine ⟨fun kv m => ?_, fun kv m => ?_, ?_⟩
  · unfold putP at m
    split at m
    · obtain ⟨x, hx, e⟩ := List.mem_map.mp m
      split at e
      · subst e; exact h.ks x hx
      · subst e; exact h.ks x hx
    · rcases List.mem_append.mp m with m | m
      · exact h.ks kv m
      · rw [List.mem_singleton.mp m]; exact hk
  · unfold putP at m
    split at m
    · obtain ⟨x, hx, e⟩ := List.mem_map.mp m
      split at e
      · subst e; exact hv
      · subst e; exact h.vs x hx
    · rcases List.mem_append.mp m with m | m
      · exact h.vs kv m
      · rw [List.mem_singleton.mp m]; exact hv
  · rw [putP_keys]
    split
    · exact h.nd
    · rename_i hn
      refine List.nodup_append.mpr ⟨h.nd, by simp, fun a ha b hb e => ?_⟩
      rw [List.mem_singleton.mp hb] at e
      subst e
      obtain ⟨x, hx, ex⟩ := List.mem_map.mp ha
      exact hn (List.any_eq_true.mpr ⟨x, hx, by simp [ex]⟩)
theorem PageOk.tab {p : Page} (h : PageOk p) : TabOk p := ⟨h.ks, h.vs, by
  have := h.up
  unfold List.Nodup
  rw [List.pairwise_map]
  exact this.imp fun {a b} hl e => by rw [e, keyLt_irrefl] at hl; cases hl⟩
theorem TabOk.putAll {r : Page} : ∀ {t : Page}, TabOk t → (∀ kv ∈ r, kv.1 ∈ uni) → (∀ kv ∈ r, valOk kv.2 = true) → TabOk (putAll t r) := by
  induction r with
  | nil => intro t h _ _; exact h
  | cons x r ih =>
    intro t h h1 h2
    exact ih (h.put (h1 x (List.mem_cons_self ..)) (h2 x (List.mem_cons_self ..))) (fun kv m => h1 kv (List.mem_cons_of_mem _ m)) fun kv m => h2 kv (List.mem_cons_of_mem _ m)
theorem valP_mem {t : Page} {k : KeyT} (h : k ∈ t.map (·.1)) : (k, valP t k) ∈ t := by
  obtain ⟨x, hx, e⟩ := List.mem_map.mp h
  unfold valP
  cases q : t.find? fun kv => decide (kv.1 = k) with
  | none =>
    have := List.find?_eq_none.mp q x hx
    simp [e] at this
  | some y =>
    have h1 := List.find?_some q
    have h2 := List.mem_of_find?_eq_some q
    have h1 : y.1 = k := by simpa using h1
    subst h1
    exact h2
theorem TabOk.sort {t : Page} (h : TabOk t) : PageOk (sortP t) := by
  refine ⟨fun kv m => ?_, fun kv m => ?_, ?_⟩
  · obtain ⟨k, hk, rfl⟩ := List.mem_map.mp m
    exact h.ks _ (valP_mem (sortKs_mem.mp hk))
  · obtain ⟨k, hk, rfl⟩ := List.mem_map.mp m
    exact h.vs _ (valP_mem (sortKs_mem.mp hk))
  · unfold sortP
    rw [List.pairwise_map]
    exact sortKs_up h.nd
theorem PageOk.over {p r : Page} (hp : PageOk p) (hr : PageOk r) : PageOk (over p r) :=
  ((TabOk.nil.putAll hp.ks hp.vs).putAll hr.ks hr.vs).sort
theorem PageOk.nil : PageOk [] := ⟨by simp, by simp, .nil⟩
theorem nodup_len {α : Type} [DecidableEq α] : ∀ {a b : List α}, a.Nodup → (∀ x ∈ a, x ∈ b) → a.length ≤ b.length
  | [], b, _, _ => Nat.zero_le _
  | x :: a, b, h, s => by
    have hx := s x (List.mem_cons_self ..)
    have h' := List.nodup_cons.mp h
    have := nodup_len (a := a) (b := b.erase x) h'.2 fun y hy => (List.mem_erase_of_ne (by rintro rfl; exact h'.1 hy)).mpr (s y (List.mem_cons_of_mem _ hy))
    rw [List.length_erase_of_mem hx] at this
    have := List.length_pos_of_mem hx
    rw [List.length_cons]
    omega
theorem uni_len : uni.length = 215 := by decide +kernel
theorem TabOk.len {t : Page} (h : TabOk t) : t.length ≤ 215 := by
  have := nodup_len h.nd (b := uni) fun x hx => by
    obtain ⟨y, hy, e⟩ := List.mem_map.mp hx
    rw [← e]
    exact h.ks y hy
  rw [uni_len, List.length_map] at this
  exact this
theorem PageOk.len {p : Page} (h : PageOk p) : p.length ≤ 215 := h.tab.len
/-! ### keys of the universe -/
def keyFine (k : KeyT) : Bool := isKey (tkD k) && (tkD k).canLay0 && decide (k.length ≤ 3) && decide (k ≠ [])
theorem uni_fine : uni.all keyFine = true := by decide +kernel
theorem uni_alike : uni.all (fun k => uni.all fun l => PySem.W.alikeAll (k.map kD) (l.map kD)) = true := by decide +kernel
theorem fine_of {k : KeyT} (h : k ∈ uni) : keyFine k = true := List.all_eq_true.mp uni_fine k h
theorem alike_of {k l : KeyT} (h : k ∈ uni) (h' : l ∈ uni) : PySem.W.alikeAll (k.map kD) (l.map kD) = true := List.all_eq_true.mp (List.all_eq_true.mp uni_alike k h) l h'
theorem key_is {k : KeyT} (h : k ∈ uni) : isKey (tkD k) = true := by
  have := fine_of h
  simp only [keyFine, Bool.and_eq_true] at this
  exact this.1.1.1
theorem key_lay {k : KeyT} (h : k ∈ uni) : (tkD k).canLay0 = true := by
  have := fine_of h
  simp only [keyFine, Bool.and_eq_true] at this
  exact this.1.1.2
theorem key_len {k : KeyT} (h : k ∈ uni) : k.length ≤ 3 := by
  have := fine_of h
  simp only [keyFine, Bool.and_eq_true, decide_eq_true_eq] at this
  exact this.1.2
theorem key_ne {k : KeyT} (h : k ∈ uni) : k ≠ [] := by
  have := fine_of h
  simp only [keyFine, Bool.and_eq_true, decide_eq_true_eq] at this
  exact this.2
structure ValFine (d : PyData) : Prop where
  pl : isPlain d = true
  to : tupOnly d = true
  ly : d.canLay0 = true
  dp : d.depth ≤ 3
  nd : nodes d ≤ 20
theorem val_of {d : PyData} (h : valOk d = true) : ValFine d := by
  simp only [valOk, Bool.and_eq_true, decide_eq_true_eq] at h
  exact ⟨h.1.1.1.1, h.1.1.1.2, h.1.1.2, h.1.2, h.2⟩
theorem kD_to (k : KeyT) : tupOnlyL (k.map kD) = true := by
  induction k with
  | nil => rfl
  | cons x k ih => cases x <;> exact ih
theorem tkD_to (k : KeyT) : tupOnly (tkD k) = true := kD_to k
theorem tkD_depth (k : KeyT) : (tkD k).depth = 1 := by
  show PyData.depthAll (k.map kD) + 1 = 1
  rw [depth_key]
theorem pairD_to {kv : KeyT × PyData} (h : valOk kv.2 = true) : tupOnly (pairD kv) = true := by
  show (tupOnly (tkD kv.1) && (tupOnly kv.2 && true)) = true
  rw [tkD_to, (val_of h).to]
  rfl
theorem depthAll_le {n : Nat} : ∀ {ds : List PyData}, (∀ d ∈ ds, d.depth ≤ n) → PyData.depthAll ds ≤ n
  | [], _ => Nat.zero_le _
  | d :: ds, h => by
    show max d.depth (PyData.depthAll ds) ≤ n
    exact Nat.max_le.mpr ⟨h d (List.mem_cons_self ..), depthAll_le fun x hx => h x (List.mem_cons_of_mem _ hx)⟩
theorem layAll {ds : List PyData} (h : ∀ d ∈ ds, d.canLay0 = true) : PyData.canLayAll0 ds = true := by
  induction ds with
  | nil => rfl
  | cons d ds ih =>
    show (d.canLay0 && PyData.canLayAll0 ds) = true
    rw [h d (List.mem_cons_self ..), ih fun x hx => h x (List.mem_cons_of_mem _ hx)]
    rfl
structure Lay (n : Nat) (d : PyData) : Prop where
  to : tupOnly d = true
  ly : d.canLay0 = true
  dp : d.depth ≤ n
theorem Lay.tup {n : Nat} {ds : List PyData} (h : ∀ d ∈ ds, Lay n d) : Lay (n + 1) (.tuple ds) :=
  ⟨tupOnlyL_iff.mpr fun d hd => (h d hd).to, layAll fun d hd => (h d hd).ly, Nat.succ_le_succ (depthAll_le fun d hd => (h d hd).dp)⟩
theorem Lay.shaped {n : Nat} {d : PyData} (h : Lay n d) (hn : n ≤ 64 := by decide) : SeqAt.shaped d = true := by
  unfold SeqAt.shaped
  rw [h.ly, decide_eq_true (Nat.le_trans h.dp hn)]
  rfl
theorem Lay.mono {n m : Nat} {d : PyData} (h : Lay n d) (l : n ≤ m) : Lay m d := ⟨h.to, h.ly, Nat.le_trans h.dp l⟩
theorem lay_key {k : KeyT} (h : k ∈ uni) : Lay 1 (tkD k) := ⟨tkD_to k, key_lay h, Nat.le_of_eq (tkD_depth k)⟩
theorem lay_val {d : PyData} (h : valOk d = true) : Lay 3 d := ⟨(val_of h).to, (val_of h).ly, (val_of h).dp⟩
theorem lay_int (i : Int) : Lay 0 (.int i) := ⟨rfl, rfl, Nat.le_refl _⟩
theorem lay_pair {k : KeyT} {d : PyData} (h : k ∈ uni) (h' : valOk d = true) : Lay 4 (pairD (k, d)) := Lay.tup fun x hx => by
  simp only [List.mem_cons, List.not_mem_nil, or_false] at hx
  rcases hx with rfl | rfl
  · exact (lay_key h).mono (by decide)
  · exact lay_val h'
theorem lay_page {p : Page} (h : PageOk p) : Lay 5 (pageD p) := Lay.tup fun x hx => by
  obtain ⟨kv, m, rfl⟩ := List.mem_map.mp hx
  exact lay_pair (h.ks kv m) (h.vs kv m)
def EntOk (e : Entry) : Prop := PageOk e.p
def SlotOk (s : Slot) : Prop := ∀ e, s = some e → EntOk e
theorem lay_ent {e : Entry} (h : EntOk e) : Lay 6 (entD e) := Lay.tup fun x hx => by
  simp only [List.mem_cons, List.not_mem_nil, or_false] at hx
  rcases hx with rfl | rfl | rfl | rfl
  · exact (lay_int _).mono (by decide)
  · exact (lay_int _).mono (by decide)
  · exact (lay_int _).mono (by decide)
  · exact lay_page h
theorem lay_slot {s : Slot} (h : SlotOk s) : Lay 6 (slD s) := by
  cases s with
  | none => exact ⟨rfl, rfl, by decide⟩
  | some e => exact lay_ent (h e rfl)
theorem lay_slots {S : List Slot} (h : ∀ s ∈ S, SlotOk s) : Lay 7 (.tuple (S.map slD)) := Lay.tup fun x hx => by
  obtain ⟨s, m, rfl⟩ := List.mem_map.mp hx
  exact lay_slot (h s m)
/-! ### what the askings answer of fine things -/
theorem isPageL_ok : ∀ {p : Page} {a : Option PyData}, (∀ kv ∈ p, kv.1 ∈ uni) → (∀ kv ∈ p, valOk kv.2 = true) → (p.Pairwise fun a b => keyLt a.1 b.1 = true) → (∀ kv, p.head? = some kv → aheadOk a (tkD kv.1) = true) → isPageL a (p.map pairD) = true
  | [], _, _, _, _, _ => rfl
  | kv :: r, a, h1, h2, h3, h4 => by
    have ih := isPageL_ok (p := r) (a := some (tkD kv.1)) (fun x m => h1 x (List.mem_cons_of_mem _ m)) (fun x m => h2 x (List.mem_cons_of_mem _ m)) (List.pairwise_cons.mp h3).2 fun x hx => (List.pairwise_cons.mp h3).1 x (List.mem_of_mem_head? hx)
    show (isKey (tkD kv.1) && isPlain kv.2 && aheadOk a (tkD kv.1) && isPageL (some (tkD kv.1)) (r.map pairD)) = true
    rw [ih, key_is (h1 kv (List.mem_cons_self ..)), (val_of (h2 kv (List.mem_cons_self ..))).pl, h4 kv rfl]
    rfl
theorem isPage_ok {p : Page} (h : PageOk p) : isPage (pageD p) = true := isPageL_ok h.ks h.vs h.up fun _ _ => rfl
theorem isEntry_ok {e : Entry} (h : EntOk e) : isEntry (entD e) = true := by
  show (isNum (.int e.g) && isNum (.int e.l) && isNum (.int e.n) && isPage (pageD e.p)) = true
  rw [isPage_ok h]
  simp [isNum]
theorem slotFine_ok {s : Slot} (h : SlotOk s) : slotFine (slD s) = true := by
  cases s with
  | none => rfl
  | some e =>
    unfold slotFine
    rw [show slD (some e) = entD e from rfl, isEntry_ok (h e rfl), Bool.or_true]
theorem areSlots_ok {S : List Slot} (h : ∀ s ∈ S, SlotOk s) (hs : isSize S.length = true) : areSlots (S.map slD) = true := by
  unfold areSlots
  rw [List.length_map, hs, Bool.true_and, List.all_map]
  exact List.all_eq_true.mpr fun s m => slotFine_ok (h s m)
end Y
/-! part B0 -/
/-! The text by places; small defs: numbers, rows, lots, sizes. -/
namespace Y
open PySem L2
local macro_rules | `(tactic| walk_at "y1") => `(tactic| (first
  | (with_reducible refine x_seq ?_) | (with_reducible refine x_asg ?_) | (with_reducible refine x_name ?_) | (with_reducible refine x_drop ?_) | (with_reducible refine x_ret ?_) | (with_reducible refine x_retN ?_)
  | (with_reducible refine x_next ?_) | (with_reducible refine x_brk ?_) | (with_reducible refine x_ifS ?_)
  | (with_reducible refine x_c ?_) | (with_reducible refine x_op ?_) | (with_reducible refine x_un ?_) | (with_reducible refine x_cb ?_) | (with_reducible refine x_cons ?_) | (with_reducible refine x_nil ?_)
  | (with_reducible refine x_call ?_) | (with_reducible refine x_tup ?_) | (with_reducible refine x_lst ?_) | (with_reducible refine x_sl ?_) | (with_reducible refine x_nopart ?_) | (with_reducible refine x_part ?_)
  | (with_reducible refine x_andV ?_) | (with_reducible refine x_orV ?_) | (with_reducible refine x_notV ?_) | (with_reducible refine x_if ?_) | (with_reducible refine x_test ?_) | (with_reducible refine x_tb ?_)
  | (with_reducible refine x_and ?_) | (with_reducible refine x_or ?_) | (with_reducible refine x_not ?_) | (with_reducible refine x_chain ?_) | (with_reducible refine x_exbl ?_) | (with_reducible refine x_exint ?_)
  | (with_reducible refine x_fld ?_) | (with_reducible refine x_sfld ?_) | (with_reducible refine x_par ?_) | (with_reducible refine x_par3 ?_) | (with_reducible refine x_dget ?_) | (with_reducible refine x_dput ?_)
  | (with_reducible refine x_bm ?_) | (with_reducible refine x_bm0 ?_) | (with_reducible refine x_pair ?_) | (with_reducible refine x_tri ?_) | (with_reducible refine x_int ?_) | (with_reducible refine x_intb ?_) | (with_reducible refine x_abs ?_) | (with_reducible refine x_isN ?_) | (with_reducible refine x_notN ?_) | (with_reducible refine x_meth ?_) | (with_reducible refine x_make ?_)
  | (with_reducible refine x_ite1 ?_) | (with_reducible refine x_ite0 ?_)
  | (with_reducible refine x_addi ?_) | (with_reducible refine x_neg ?_) | (with_reducible refine x_i0 ?_) | (with_reducible refine x_eqi ?_) | (with_reducible refine x_eqs ?_) | (with_reducible refine x_eqb ?_) | (with_reducible refine x_nei ?_) | (with_reducible refine x_lti ?_)
  | (with_reducible refine x_forL ?_) | (with_reducible refine x_forT ?_) | (with_reducible refine x_forR ?_) | (with_reducible refine x_forR2 ?_) | (with_reducible refine x_lcL ?_) | (with_reducible refine x_lcT ?_) | (with_reducible refine x_lcR ?_)
  | (with_reducible refine x_yes ?_) | (with_reducible refine x_pcons ?_) | (with_reducible refine x_pnil ?_) | (with_reducible refine x_gcons ?_) | (with_reducible refine x_gnil ?_) | (with_reducible refine x_gattr ?_) | (with_reducible refine x_raise ?_) | (with_reducible refine x_gsub ?_) | (with_reducible refine x_fldaug ?_) | (with_reducible refine x_radd ?_) | (with_reducible refine x_ipi ?_) | ((with_reducible refine x_aug (x := ?vv) ?hh ?qq); (case hh => exact rfl))
  | ((with_reducible refine x_iteA ?hc ?q); (case hc => exact rfl)) | ((with_reducible refine x_iteB ?hc ?q); (case hc => exact rfl))
  | ((with_reducible refine x_var (v := ?vv) ?hh ?qq); (case hh => exact rfl))
  | ((with_reducible refine r_isInt (d := ?dd) ?hh ?qq); (case hh => assumption)) | ((with_reducible refine r_isBool (d := ?dd) ?hh ?qq); (case hh => assumption)) | ((with_reducible refine r_isTup (d := ?dd) ?hh ?qq); (case hh => assumption))
  | ((with_reducible refine r_isStr (d := ?dd) ?hh ?qq); (case hh => assumption)) | ((with_reducible refine r_isLst (d := ?dd) ?hh ?qq); (case hh => assumption))))
local macro_rules | `(tactic| walk_at "y") => `(tactic| (repeat (walk_at "y1")))
def top (i : Nat) : Stmt := PySem.Challenge.pw_mapsapart_k65_whole_journals_on_disks_cu.main.body.getD i (.Pass ⟨0, 0, 0, 0⟩)
/-- the built-in names that are still built-in -/
structure Bt (mg : Str → Option Value) : Prop where
  isinstance : mg "isinstance" = none
  len : mg "len" = none
  tuple : mg "tuple" = none
  list : mg "list" = none
  int : mg "int" = none
  str : mg "str" = none
  bool : mg "bool" = none
  all : mg "all" = none
  max : mg "max" = none
  range : mg "range" = none
  sorted : mg "sorted" = none
  abs : mg "abs" = none
  gLEAST_SLOTS : ∃ t, mg "LEAST_SLOTS" = some (.int 4 t)
  gMOST_SLOTS : ∃ t, mg "MOST_SLOTS" = some (.int 64 t)
theorem pass_hu64 {k : Nat} {A : Around} (hr : Room k A) : A.units + 64 < cLine := by have := hr.un; omega
section
variable {P : Program} {w : World} {K : PySem.W.Frag} {mg : Str → Option Value} {base : Heap}
/-! ### is_number, is_row -/
def spNum (K : PySem.W.Frag) : Sp := fun vs H Q _ => ∃ v d, vs = [v] ∧ Wt K H v d ∧ Q (.bl (isNum d)) H
def spRow (K : PySem.W.Frag) : Sp := fun vs H Q _ => ∃ v d, vs = [v] ∧ Wt K H v d ∧ ∀ H', Ex H H' → Q (.bl (isRow d)) H'
abbrev s_is_number : Stmt := top 8
abbrev nms_is_number : List Str := ["value"]
theorem sc_is_number : FnScope nms_is_number ["value"] (defScope s_is_number) := ⟨rfl, rfl, rfl, by decide +kernel, rfl, by decide +kernel, by decide +kernel⟩
theorem ok_is_number {f : Addr} {fd : FuncData} (F : Fun K "is_number" "is_number" s_is_number f fd) (hm : mg "is_number" = some (.ref f)) (b : Binds K fd ["value"] []) (T : Bt mg) : Cal P w K mg base 1 "is_number" (spNum K) := by
  refine cal_of F hm b sc_is_number (fun vs H Q E h => ?_) (fun cdv A outer s H vs Q E hr h => ?_)
  · obtain ⟨v, d, rfl, _⟩ := h
    rfl
  · obtain ⟨v, d, rfl, hv, q⟩ := h
    refine ⟨_, (pss_one (ps_ret (pe_and (pe_callB call_isi (by rfl) T.isinstance (by decide +kernel) (pa_cons (pv 0) (pa_cons (pe_bltn (v := .ty "int") (by rfl) T.int (by decide +kernel) rfl) pa_nil))) (pe_and (pe_not (pe_callB call_isi (by rfl) T.isinstance (by decide +kernel) (pa_cons (pv 0) (pa_cons (pe_bltn (v := .ty "bool") (by rfl) T.bool (by decide +kernel) rfl) pa_nil)))) (pe_one (pe_cmpR op_ge (pv 0) pe_int (nomark _))))))), ?_⟩
    try dsimp only [cxOf]
    rcases d with _ | b | i | x | ds | ds | kv
    all_goals
      have hw := hv
      cases hw
      walk_at "y"
      exact q
abbrev s_is_row : Stmt := top 9
abbrev nms_is_row : List Str := ["value"]
theorem sc_is_row : FnScope nms_is_row ["value"] (defScope s_is_row) := ⟨rfl, rfl, rfl, by decide +kernel, rfl, by decide +kernel, by decide +kernel⟩
theorem ok_is_row {f : Addr} {fd : FuncData} (F : Fun K "is_row" "is_row" s_is_row f fd) (hm : mg "is_row" = some (.ref f)) (b : Binds K fd ["value"] []) (T : Bt mg) : Cal P w K mg base 1 "is_row" (spRow K) := by
  refine cal_of F hm b sc_is_row (fun vs H Q E h => ?_) (fun cdv A outer s H vs Q E hr h => ?_)
  · obtain ⟨v, d, rfl, _⟩ := h
    rfl
  · obtain ⟨v, d, rfl, hv, q⟩ := h
    refine ⟨_, (pss_one (ps_ret (pe_callB call_isiT (by rfl) T.isinstance (by decide +kernel) (pa_cons (pv 0) (pa_cons (pe_tup (pa_cons (pe_bltn (v := .ty "list") (by rfl) T.list (by decide +kernel) rfl) (pa_cons (pe_bltn (v := .ty "tuple") (by rfl) T.tuple (by decide +kernel) rfl) pa_nil))) pa_nil))))), ?_⟩
    try dsimp only [cxOf]
    walk_at "y"
    refine x_mkr fun p H1 e1 n1 hp => ?_
    walk_at "y"
    exact x_isiLT (hv.ex e1) hp (q H1 e1)
theorem x_num {H : Hp} {x : V} {d : PyData} {Q : VK} {E : XK} (h : Wt K H x d) (q : Q (.bl (isNum d)) H) : spNum K ([x] ++ []) H Q E := ⟨x, d, rfl, h, q⟩
theorem x_row {H : Hp} {x : V} {d : PyData} {Q : VK} {E : XK} (h : Wt K H x d) (q : ∀ H', Ex H H' → Q (.bl (isRow d)) H') : spRow K ([x] ++ []) H Q E := ⟨x, d, rfl, h, q⟩
/-! ### lot_within: of ascending numbers -/
def nums (ns : List Nat) : List V := ns.map fun (n : Nat) => V.int (n : Int)
def numsD (ns : List Nat) : List PyData := ns.map fun (n : Nat) => PyData.int (n : Int)
theorem wt_nums {H : Hp} (ns : List Nat) : WtL K H (nums ns) (numsD ns) := WtL.map (f := fun (n : Nat) => V.int (n : Int)) (g := fun (n : Nat) => PyData.int (n : Int)) fun n _ => Wt.int (n : Int)
def Asc (ns : List Nat) (m : Nat) : Prop := ns.Pairwise (· < ·) ∧ ∀ n ∈ ns, n < m
def spLot (K : PySem.W.Frag) : Sp := fun vs H Q _ => ∃ v ns m, vs = [v, .int ((m : Nat) : Int)] ∧ (Wt K H v (.list (numsD ns)) ∨ Wt K H v (.tuple (numsD ns))) ∧ Asc ns m ∧ ns.length ≤ 100000 ∧ ∀ p H', Ex H H' → H' p = some (.tup (nums ns)) → Q (.ref p) H'
theorem nums_of {H : Hp} : ∀ {xs : List V} {ns : List Nat}, WtL K H xs (numsD ns) → xs = nums ns
  | _, [], .nil => rfl
  | _, n :: ns, .cons (.int _) r => by rw [nums_of r]; rfl
theorem asc_at {ns : List Nat} {m i x : Nat} (h : Asc ns m) (hx : ns[i]? = some x) : x < m ∧ ∀ j y, j < i → ns[j]? = some y → y < x := by
  obtain ⟨hi, e⟩ := List.getElem?_eq_some_iff.mp hx
  refine ⟨h.2 x (e ▸ List.getElem_mem hi), fun j y hj hy => ?_⟩
  obtain ⟨hj', e'⟩ := List.getElem?_eq_some_iff.mp hy
  have := List.pairwise_iff_getElem.mp h.1 j i hj' hi hj
  rw [e, e'] at this
  exact this
theorem nums_at {ns : List Nat} {i : Nat} {x : V} (h : (nums ns)[i]? = some x) : ∃ n : Nat, ns[i]? = some n ∧ x = .int n := by
  unfold nums at h
  rw [List.getElem?_map] at h
  cases e : ns[i]? with
  | none => rw [e] at h; cases h
  | some n => rw [e] at h; cases h; exact ⟨n, rfl, rfl⟩
abbrev s_lot_within : Stmt := top 10
abbrev nms_lot_within : List Str := ["value", "many", "above", "x"]
theorem sc_lot_within : FnScope nms_lot_within ["value", "many"] (defScope s_lot_within) := ⟨rfl, rfl, rfl, by decide +kernel, rfl, by decide +kernel, by decide +kernel⟩
theorem ok_lot_within {f : Addr} {fd : FuncData} (F : Fun K "lot_within" "lot_within" s_lot_within f fd) (hm : mg "lot_within" = some (.ref f)) (b : Binds K fd ["value", "many"] []) (T : Bt mg)
    (c_is_number : Cal P w K mg base 1 "is_number" (spNum K)) (c_is_row : Cal P w K mg base 1 "is_row" (spRow K)) : Cal P w K mg base 2 "lot_within" (spLot K) := by
  refine cal_of F hm b sc_lot_within (fun vs H Q E h => ?_) (fun cdv A outer s H vs Q E hr h => ?_)
  · obtain ⟨v, ns, m, rfl, _⟩ := h
    rfl
  · obtain ⟨v, ns, m, rfl, hv, ha, hl, q⟩ := h
    have hu64 := pass_hu64 hr
    rcases hv with hv | hv
    · cases hv with
      | @lst a xs _ ea wa =>
      cases nums_of wa
      refine ⟨_, (pss_cons (ps_if (pt_not (pt_val (pe_c c_is_row hr (by decide) (by rfl) (pa_cons (pv 0) pa_nil))))
    (pss_one (ps_ret pe_non))
    pss_nil)
    (pss_cons (ps_set (i := 2) sc_lot_within.nd rfl (by first | exact Or.inl rfl | exact Or.inr rfl) (pe_un un_neg pe_int))
    (pss_cons (ps_for (passes_of rfl) rfl (pi_list (pv 0)) (pg_name (i := 3) sc_lot_within.nd rfl (by first | exact Or.inl rfl | exact Or.inr rfl))
    (pss_cons (ps_if (PW.pt (pw_or (pt_not (pt_val (pe_c c_is_number hr (by decide) (by rfl) (pa_cons (pv 3) pa_nil)))) (pw_or1 (pt_not (pt_chain (oLtK K hu64) (oLtK K hu64) (pv 2) (pv 3) (pv 1))))))
    (pss_one (ps_ret pe_non))
    pss_nil)
    (pss_one (ps_set (i := 2) sc_lot_within.nd rfl (by first | exact Or.inl rfl | exact Or.inr rfl) (pv 3)))))
    (pss_one (ps_ret (pe_callTy cTuple (by rfl) T.tuple (by decide +kernel) (pa_cons (pv 0) pa_nil))))))), ?_⟩
      try dsimp only [cxOf]
      walk_at "y"
      refine x_row (Wt.lst ea wa) fun H1 e1 => ?_
      rw [show isRow (.list (numsD ns)) = true from rfl]
      walk_at "y"
      refine y_forL (fun i σ H => Ex H1 H ∧ ∃ (ab : Int) (o : Option V), σ = [some (.ref a), some (.int m), some (.int ab), o] ∧ ∀ y, ns[i]? = some y → ab < (y : Int)) (e1 a _ ea) ⟨Ex.refl _, -1, _, rfl, fun y _ => by omega⟩ (fun i σ H p => p.1 a _ (e1 a _ ea)) (fun i x σ H hx p => ?_) fun σ H p => ?_
      · obtain ⟨e2, ab, o, rfl, hab⟩ := p
        obtain ⟨n, hn, rfl⟩ := nums_at hx
        have hlt := asc_at ha hn
        have hab := hab n hn
        walk_at "y"
        refine x_num (.int _) ?_
        rw [show isNum (.int (n : Int)) = true from by simp [isNum]]
        walk_at "y"
        rw [decide_eq_true hab]
        walk_at "y"
        rw [decide_eq_true (show (n : Int) < m by omega)]
        walk_at "y"
        exact ⟨e2, n, _, rfl, fun y hy => by have := (asc_at ha hy).2 i n (by omega) hn; omega⟩
      · obtain ⟨e2, ab, o, rfl, _⟩ := p
        walk_at "y"
        refine x_tupl (e2 a _ (e1 a _ ea)) fun p H' e3 _ hp => ?_
        exact q p H' (e1.trans (e2.trans e3)) hp
    · cases hv with
      | @tup a xs _ ea wa =>
      cases nums_of wa
      refine ⟨_, (pss_cons (ps_if (pt_not (pt_val (pe_c c_is_row hr (by decide) (by rfl) (pa_cons (pv 0) pa_nil))))
    (pss_one (ps_ret pe_non))
    pss_nil)
    (pss_cons (ps_set (i := 2) sc_lot_within.nd rfl (by first | exact Or.inl rfl | exact Or.inr rfl) (pe_un un_neg pe_int))
    (pss_cons (ps_for (passes_of rfl) rfl (pi_tup (pv 0)) (pg_name (i := 3) sc_lot_within.nd rfl (by first | exact Or.inl rfl | exact Or.inr rfl))
    (pss_cons (ps_if (PW.pt (pw_or (pt_not (pt_val (pe_c c_is_number hr (by decide) (by rfl) (pa_cons (pv 3) pa_nil)))) (pw_or1 (pt_not (pt_chain (oLtK K hu64) (oLtK K hu64) (pv 2) (pv 3) (pv 1))))))
    (pss_one (ps_ret pe_non))
    pss_nil)
    (pss_one (ps_set (i := 2) sc_lot_within.nd rfl (by first | exact Or.inl rfl | exact Or.inr rfl) (pv 3)))))
    (pss_one (ps_ret (pe_callTy cTuple (by rfl) T.tuple (by decide +kernel) (pa_cons (pv 0) pa_nil))))))), ?_⟩
      try dsimp only [cxOf]
      walk_at "y"
      refine x_row (Wt.tup ea wa) fun H1 e1 => ?_
      rw [show isRow (.tuple (numsD ns)) = true from rfl]
      walk_at "y"
      refine y_forT (fun i σ H => Ex H1 H ∧ ∃ (ab : Int) (o : Option V), σ = [some (.ref a), some (.int m), some (.int ab), o] ∧ ∀ y, ns[i]? = some y → ab < (y : Int)) (e1 a _ ea) ⟨Ex.refl _, -1, _, rfl, fun y _ => by omega⟩ (fun i σ H p => p.1 a _ (e1 a _ ea)) (fun i x σ H hx p => ?_) fun σ H p => ?_
      · obtain ⟨e2, ab, o, rfl, hab⟩ := p
        obtain ⟨n, hn, rfl⟩ := nums_at hx
        have hlt := asc_at ha hn
        have hab := hab n hn
        walk_at "y"
        refine x_num (.int _) ?_
        rw [show isNum (.int (n : Int)) = true from by simp [isNum]]
        walk_at "y"
        rw [decide_eq_true hab]
        walk_at "y"
        rw [decide_eq_true (show (n : Int) < m by omega)]
        walk_at "y"
        exact ⟨e2, n, _, rfl, fun y hy => by have := (asc_at ha hy).2 i n (by omega) hn; omega⟩
      · obtain ⟨e2, ab, o, rfl, _⟩ := p
        walk_at "y"
        refine x_tupt (e2 a _ (e1 a _ ea)) ?_
        exact q a _ (e1.trans e2) (e2 a _ (e1 a _ ea))
end
end Y
/-! part A9 -/
/-! More short rules: slices, whiles, lists that grow, tables on a heap. -/
namespace Y
open PySem L2
section
variable {K : PySem.W.Frag} {σ : L2.St} {H : Hp} {Q : VK} {D : Ends}
/-! ### slices -/
def cutD (ds : List PyData) (lo hi : Option Int) : List PyData := (ds.drop (HT.sIx ds.length 0 lo)).take (HT.sIx ds.length ds.length hi - HT.sIx ds.length 0 lo)
theorem WtL.cut {vs : List V} {ds : List PyData} (h : WtL K H vs ds) (lo hi : Option Int) : WtL K H (cutV vs lo hi) (cutD ds lo hi) := by
  unfold cutV cutD
  rw [h.len]
  exact (h.drop _).take _
theorem x_slt {x : V} {ds : List PyData} {lo hi : Option Int} (h : Wt K H x (.tuple ds)) (q : ∀ v H', Ex H H' → Wt K H' v (.tuple (cutD ds lo hi)) → Q v H') : rSlU K x lo hi H Q := by
  cases h with
  | @tup a xs _ ea wa =>
  refine .inr ⟨a, xs, rfl, SqT.of ea, fun hw => ?_, fun _ p hp => q _ _ (Ex.new hp) (.tup upd_same ((wa.cut lo hi).ex (Ex.new hp)))⟩
  refine q _ H (Ex.refl H) (.tup ea ?_)
  have e : cutD ds lo hi = ds := by
    unfold cutD
    rw [wa.len] at hw
    rw [hw.1, hw.2, List.drop_zero, Nat.sub_zero, List.take_length]
  rw [e]
  exact wa
theorem cut_to (ds : List PyData) (n : Nat) : cutD ds none (some (n : Int)) = ds.take n := by
  unfold cutD
  rw [HT.sIx_none, HT.sIx_nat, List.drop_zero, Nat.sub_zero, List.take_eq_take_iff]
  omega
theorem cut_from (ds : List PyData) (n : Nat) : cutD ds (some (n : Int)) none = ds.drop n := by
  unfold cutD
  rw [HT.sIx_none, HT.sIx_nat]
  by_cases h : n ≤ ds.length
  · rw [Nat.min_eq_left h, List.take_of_length_le (by rw [List.length_drop]; exact Nat.le_refl _)]
  · rw [Nat.min_eq_right (by omega), List.drop_of_length_le (Nat.le_refl _), List.drop_of_length_le (by omega), List.take_nil]
theorem x_sll {l : Addr} {xs : List V} {lo hi : Option Int} (h : H l = some (.lst xs)) (q : ∀ p H', Ex H H' → H p = none → H' p = some (.lst (cutV xs lo hi)) → Q (.ref p) H') : rSlU K (.ref l) lo hi H Q :=
  .inl ⟨l, xs, rfl, SqL.of h, fun p hp => q p _ (Ex.new hp) hp upd_same⟩
theorem x_yes {Q : Bool → Hp → Prop} (q : Q true H) : tYes σ H Q := q
/-! ### a while -/
theorem y_while {c : TT} {tb : TS} (Pv : Nat → L2.St → Hp → Prop) (m : Nat) (h0 : Pv m σ H)
    (hs : ∀ m σ H, Pv m σ H → c σ H fun b H1 => if b = true then ∃ N : L2.St → Hp → Prop, (∀ σ' H', N σ' H' → ∃ m', m' < m ∧ Pv m' σ' H') ∧ tb { D with nx := N, ct := N, bk := D.nx } σ H1 else D.nx σ H1) : tWhile c tb D σ H :=
  ⟨Pv, ⟨m, h0⟩, hs⟩
/-! ### lists that change -/
theorem x_tyl {l : Addr} {xs : List V} (h : H l = some (.lst xs)) : tyV K "list" (.ref l) H := .inl ⟨rfl, xs, SqL.of h⟩
theorem x_append {l : Addr} {xs : List V} {y : V} (h : H l = some (.lst xs)) (hl : xs.length < 100000) (q : ∀ H', Go [l] H H' → H' l = some (.lst (xs ++ [y])) → Q .non H') : rAppend (.ref l) [y] H Q :=
  ⟨l, xs, y, rfl, rfl, h, Nat.lt_of_lt_of_le hl (by decide), q _ (Go.set h (by intro _ z; cases z)) upd_same⟩
theorem x_extend {l b : Addr} {xs zs : List V} (h : H l = some (.lst xs)) (hb : H b = some (.lst zs)) (hl : xs.length + zs.length ≤ 100000) (q : ∀ H', Go [l] H H' → H' l = some (.lst (xs ++ zs)) → Q .non H') : rExtend (.ref l) [.ref b] H Q :=
  ⟨l, b, xs, zs, rfl, rfl, h, hb, Nat.le_trans hl (by decide), q _ (Go.set h (by intro _ z; cases z)) upd_same⟩
theorem x_pop {l : Addr} {xs : List V} {y : V} (h : H l = some (.lst (xs ++ [y]))) (q : ∀ H', Go [l] H H' → H' l = some (.lst xs) → Q y H') : rPop (.ref l) [] H Q :=
  ⟨l, xs ++ [y], y, rfl, rfl, h, by simp, q _ (Go.set h (by intro _ z; cases z)) (by rw [upd_same, List.dropLast_concat])⟩
theorem x_setl {p : Addr} {xs : List V} {i : Int} {n : Nat} {v : V} {q : Hp → Prop} (h : H p = some (.lst xs)) (hi : i = (n : Int)) (hn : n < xs.length) (k : ∀ H', Go [p] H H' → H' p = some (.lst (xs.set n v)) → q H') : rSetL (.ref p) (.int i) v H q :=
  ⟨p, xs, i, n, rfl, rfl, h, by subst hi; unfold ixN; rw [if_pos (by omega), if_pos (by omega)]; simp, k _ (Go.set h (by intro _ z; cases z)) upd_same⟩
theorem x_gsub {to ti : TE} {t : TSet} {v : V} {q : L2.St → Hp → Prop} (h : to σ H fun o H1 => ti σ H1 fun i H2 => t o i v H2 fun H3 => q σ H3) : gSub to ti t v σ H q := h
theorem x_gtup2 {i j : Nat} {a : Addr} {x y : V} {q : L2.St → Hp → Prop} (h : H a = some (.tup [x, y])) (k : q ((σ.set i (some x)).set j (some y)) H) : gTup K 2 (gCons (gName i) (gCons (gName j) gNil)) (.ref a) σ H q :=
  ⟨a, _, rfl, SqT.of h, rfl, x, [y], rfl, y, [], rfl, rfl, k⟩
theorem x_gtup {n : Nat} {t : TGs} {a : Addr} {xs : List V} {q : L2.St → Hp → Prop} (h : H a = some (.tup xs)) (e : xs.length = n) (k : t xs σ H q) : gTup K n t (.ref a) σ H q := ⟨a, xs, rfl, SqT.of h, e, k⟩
theorem x_gcons {t : TG} {u : TGs} {v : V} {r : List V} {q : L2.St → Hp → Prop} (k : t v σ H fun σ' H' => u r σ' H' q) : gCons t u (v :: r) σ H q := ⟨v, r, rfl, k⟩
theorem x_gnil {q : L2.St → Hp → Prop} (k : q σ H) : gNil [] σ H q := ⟨rfl, k⟩
theorem x_gattr {to : TE} {f : Str} {v : V} {q : L2.St → Hp → Prop} (k : to σ H fun x H2 => kSfld K f x v H2 (q σ)) : gAttr K to f v σ H q := k
theorem x_aug {i : Nat} {te : TE} {ti : TIp} {x : V} (h : σ[i]? = some (some x)) (q : te σ H fun y H1 => ti x y H1 fun z H2 => D.nx (σ.set i (some z)) H2) : tAug i te ti D σ H := ⟨x, h, q⟩
theorem x_ipi {f : Int → Int → Int} {i j : Int} (q : Q (.int (f i j)) H) : ipI f (.int i) (.int j) H Q := ⟨i, j, rfl, rfl, q⟩
def kFin (C a : Addr) (f : Str) (z : V) (H3 : Hp) (q : Hp → Prop) : Prop := ∃ dx' fs', H3 a = some (.ins C dx' fs') ∧ fs'.length < 1000 ∧ q (upd H3 a (.ins C dx' (putF f z fs')))
def kFldAug (K : PySem.W.Frag) (tv : TE) (rd : V → V → Hp → VK → Prop) (f : Str) (D : Ends) (σ : L2.St) (x : V) (H1 : Hp) : Prop := ∃ a C dx fs v, x = .ref a ∧ H1 a = some (.ins C dx fs) ∧ Cls K C ∧ NoAttr K C f ∧ fs.lookup f = some v ∧
  tv σ H1 fun y H2 => rd v y H2 fun z H3 => kFin C a f z H3 (D.nx σ)
theorem x_fldaug {ta tv : TE} {rd : V → V → Hp → VK → Prop} {f : Str} (q : ta σ H fun x H1 => kFldAug K tv rd f D σ x H1) : sFldAug K ta tv rd f D σ H := q
theorem x_kfldaug {tv : TE} {rd : V → V → Hp → VK → Prop} {f : Str} {a C dx : Addr} {fs : List (Str × V)} {v : V} (h : H a = some (.ins C dx fs)) (c : Cls K C) (n : NoAttr K C f) (l : fs.lookup f = some v) (q : tv σ H fun y H2 => rd v y H2 fun z H3 => kFin C a f z H3 (D.nx σ)) : kFldAug K tv rd f D σ (.ref a) H :=
  ⟨a, C, dx, fs, v, rfl, h, c, n, l, q⟩
theorem x_kfin {C a dx : Addr} {f : Str} {z : V} {fs gs : List (Str × V)} {q : Hp → Prop} (h : H a = some (.ins C dx fs)) (l : fs.length < 1000) (e : putF f z fs = gs) (k : ∀ H', Go [a] H H' → H' a = some (.ins C dx gs) → q H') : kFin C a f z H q :=
  ⟨dx, fs, h, l, k _ (Go.set h (by intro xs z; cases z)) (by rw [upd_same, e])⟩
theorem x_radd {i j : Int} (q : Q (.int (i + j)) H) : rAdd (.int i) (.int j) H Q := ⟨i, j, rfl, rfl, q⟩
theorem x_max {l : Addr} {ns : List Int} (h : H l = some (.lst (ns.map V.int))) (hn : 0 < ns.length) (q : ∀ m, m ∈ ns → (∀ y, y ∈ ns → y ≤ m) → Q (.int m) H) : rMax K [.ref l] H Q := ⟨l, ns, rfl, SqL.of h, hn, q⟩
/-! ### tables on a heap -/
inductive KvL (K : PySem.W.Frag) (H : Hp) : List (KeyT × V) → Page → Prop
  | nil : KvL K H [] []
  | cons {k : KeyT} {v : V} {d : PyData} {r : List (KeyT × V)} {t : Page} : Wt K H v d → KvL K H r t → KvL K H ((k, v) :: r) ((k, d) :: t)
theorem KvL.keys : ∀ {kvs : List (KeyT × V)} {t : Page}, KvL K H kvs t → kvs.map (·.1) = t.map (·.1)
  | _, _, .nil => rfl
  | _, _, .cons _ r => by rw [List.map_cons, List.map_cons, KvL.keys r]
theorem KvL.len {kvs : List (KeyT × V)} {t : Page} (h : KvL K H kvs t) : kvs.length = t.length := by
  have := congrArg List.length h.keys
  simpa using this
theorem KvL.any {k : KeyT} : ∀ {kvs : List (KeyT × V)} {t : Page}, KvL K H kvs t → (kvs.any fun kv => decide (kv.1 = k)) = t.any fun kv => decide (kv.1 = k)
  | _, _, .nil => rfl
  | _, _, .cons _ r => by rw [List.any_cons, List.any_cons, KvL.any r]
theorem KvL.snoc {k : KeyT} {v : V} {d : PyData} (hv : Wt K H v d) : ∀ {kvs : List (KeyT × V)} {t : Page}, KvL K H kvs t → KvL K H (kvs ++ [(k, v)]) (t ++ [(k, d)])
  | _, _, .nil => .cons hv .nil
  | _, _, .cons h r => .cons h (KvL.snoc hv r)
theorem KvL.upd {k : KeyT} {v : V} {d : PyData} (hv : Wt K H v d) : ∀ {kvs : List (KeyT × V)} {t : Page}, KvL K H kvs t → KvL K H (kvs.map fun kv => if kv.1 = k then (kv.1, v) else kv) (t.map fun kv => if kv.1 = k then (kv.1, d) else kv)
  | _, _, .nil => .nil
  | _, _, @KvL.cons _ _ k' _ _ _ _ h r => by
    rw [List.map_cons, List.map_cons]
    by_cases e : k' = k
    · rw [if_pos e, if_pos e]; exact .cons hv (KvL.upd hv r)
    · rw [if_neg e, if_neg e]; exact .cons h (KvL.upd hv r)
theorem KvL.put {k : KeyT} {v : V} {d : PyData} (hv : Wt K H v d) {kvs : List (KeyT × V)} {t : Page} (h : KvL K H kvs t) : KvL K H (putK kvs k v) (putP t k d) := by
  unfold putK putP
  rw [h.any]
  split
  · exact h.upd hv
  · exact h.snoc hv
theorem KvL.val {k : KeyT} : ∀ {kvs : List (KeyT × V)} {t : Page}, KvL K H kvs t → k ∈ t.map (·.1) → ∃ v, valV kvs k = some v ∧ Wt K H v (valP t k)
  | _, _, .nil, m => by simp at m
  | _, _, @KvL.cons _ _ k' v d r t h q, m => by
    by_cases e : k' = k
    · refine ⟨v, valV_pos e, ?_⟩
      unfold valP
      rw [List.find?_cons, decide_eq_true e]
      exact h
    · obtain ⟨u, e1, e2⟩ := KvL.val (k := k) q (by
        rw [List.map_cons] at m
        rcases List.mem_cons.mp m with z | z
        · exact absurd z.symm e
        · exact z)
      refine ⟨u, by rw [valV_neg e]; exact e1, ?_⟩
      unfold valP at e2 ⊢
      rw [List.find?_cons, decide_eq_false e]
      exact e2
theorem KvL.go {S : List Addr} {H' : Hp} (g : Go S H H') : ∀ {kvs : List (KeyT × V)} {t : Page}, (∀ kv ∈ t, valOk kv.2 = true) → KvL K H kvs t → KvL K H' kvs t
  | _, _, _, .nil => .nil
  | _, _, a, .cons h r => .cons (h.go g (val_of (a _ (List.mem_cons_self ..))).to) (KvL.go g (fun kv m => a kv (List.mem_cons_of_mem _ m)) r)
/-- the dict at D holds the table t -/
def TabAt (K : PySem.W.Frag) (D : Addr) (t : Page) (H : Hp) : Prop := ∃ kvs, H D = some (.dT kvs) ∧ KvL K H kvs t
theorem kD_kV : ∀ {k : KeyT} {vs : List V}, WtL K H vs (k.map kD) → vs = k.map kV
  | [], _, .nil => rfl
  | .inl i :: k, _, .cons (.int _) r => by rw [kD_kV r]; rfl
  | .inr i :: k, _, .cons (.str _) r => by rw [kD_kV r]; rfl
theorem wt_kV : ∀ (k : KeyT), WtL K H (k.map kV) (k.map kD)
  | [] => .nil
  | .inl i :: k => .cons (.int i) (wt_kV k)
  | .inr i :: k => .cons (.str i) (wt_kV k)
theorem key_at {x : V} {k : KeyT} (h : Wt K H x (tkD k)) : ∃ b, x = .ref b ∧ H b = some (.tup (k.map kV)) := by
  unfold tkD at h
  cases h with
  | @tup a xs _ ea wa => exact ⟨a, rfl, by rw [← kD_kV wa]; exact ea⟩
theorem at_key {b : Addr} {k : KeyT} (h : H b = some (.tup (k.map kV))) : Wt K H (.ref b) (tkD k) := .tup h (wt_kV k)
/-- d[k] -/
theorem x_kdgetT {D : Addr} {t : Page} {x : V} {k : KeyT} (h : TabAt K D t H) (hx : Wt K H x (tkD k)) (m : k ∈ t.map (·.1)) (q : ∀ v, Wt K H v (valP t k) → Q v H) : kDget (.ref D) x H Q := by
  obtain ⟨kvs, hD, kv⟩ := h
  obtain ⟨b, rfl, hb⟩ := key_at hx
  obtain ⟨v, e1, e2⟩ := kv.val m
  exact ⟨D, v, rfl, e1 ▸ DGet.t hD hb, q v e2⟩
/-- d[k] = v -/
theorem x_kdputT {D : Addr} {t : Page} {x v : V} {k : KeyT} {d : PyData} {q : Hp → Prop} (h : TabAt K D t H) (ht : TabOk t) (hx : Wt K H x (tkD k)) (hk : k ∈ uni) (hv : Wt K H v d) (ho : valOk d = true) (c : ∀ H', Go [D] H H' → TabAt K D (putP t k d) H' → q H') : kDput (.ref D) x v H q := by
  obtain ⟨kvs, hD, kv⟩ := h
  obtain ⟨b, rfl, hb⟩ := key_at hx
  have hl := ht.len
  have g : Go [D] H (L2.upd H D (.dT (putK kvs k v))) := Go.set hD (by intro xs z; cases z)
  refine ⟨D, _, rfl, DPut.t hD hb ?_, c _ g ⟨_, upd_same, (kv.put hv).go g (ht.put hk ho).vs⟩⟩
  rw [kv.len]
  exact Nat.lt_of_le_of_lt hl (by decide)
theorem wt_refs {H' : Hp} (e : Ex H H') : ∀ {bs : List Addr} {ks : List KeyT}, Paired (fun b k => H b = some (.tup (k.map kV))) bs ks → WtL K H' (bs.map V.ref) (ks.map tkD)
  | _, _, .nil => .nil
  | _, _, .cons h r => .cons (at_key (e _ _ h)) (wt_refs e r)
/-- sorted(d) -/
theorem x_sorted {D : Addr} {t : Page} (h : TabAt K D t H) (ht : TabOk t) (q : ∀ p vs H', Ex H H' → H p = none → H' p = some (.lst vs) → WtL K H' vs ((sortKs (t.map (·.1))).map tkD) → Q (.ref p) H') : rSortK [.ref D] H Q := by
  obtain ⟨kvs, hD, kv⟩ := h
  refine ⟨D, kvs, rfl, hD, fun k hk => ?_, fun k hk l hl => ?_, fun p bs hp hb => ?_⟩
  · rw [kv.keys] at hk
    obtain ⟨x, hx, rfl⟩ := List.mem_map.mp hk
    exact key_ne (ht.ks x hx)
  · rw [kv.keys] at hk hl
    obtain ⟨x, hx, rfl⟩ := List.mem_map.mp hk
    obtain ⟨y, hy, rfl⟩ := List.mem_map.mp hl
    exact alike_of (ht.ks x hx) (ht.ks y hy)
  · rw [kv.keys] at hb
    exact q p _ _ (Ex.new hp) hp upd_same (wt_refs (Ex.new hp) hb)
end
end Y
/-! part B1 -/
/-! The disk. -/
namespace Y
open PySem L2
local macro_rules | `(tactic| walk_at "y1") => `(tactic| (first
  | (with_reducible refine x_seq ?_) | (with_reducible refine x_asg ?_) | (with_reducible refine x_name ?_) | (with_reducible refine x_drop ?_) | (with_reducible refine x_ret ?_) | (with_reducible refine x_retN ?_)
  | (with_reducible refine x_next ?_) | (with_reducible refine x_brk ?_) | (with_reducible refine x_ifS ?_)
  | (with_reducible refine x_c ?_) | (with_reducible refine x_op ?_) | (with_reducible refine x_un ?_) | (with_reducible refine x_cb ?_) | (with_reducible refine x_cons ?_) | (with_reducible refine x_nil ?_)
  | (with_reducible refine x_call ?_) | (with_reducible refine x_tup ?_) | (with_reducible refine x_lst ?_) | (with_reducible refine x_sl ?_) | (with_reducible refine x_nopart ?_) | (with_reducible refine x_part ?_)
  | (with_reducible refine x_andV ?_) | (with_reducible refine x_orV ?_) | (with_reducible refine x_notV ?_) | (with_reducible refine x_if ?_) | (with_reducible refine x_test ?_) | (with_reducible refine x_tb ?_)
  | (with_reducible refine x_and ?_) | (with_reducible refine x_or ?_) | (with_reducible refine x_not ?_) | (with_reducible refine x_chain ?_) | (with_reducible refine x_exbl ?_) | (with_reducible refine x_exint ?_)
  | (with_reducible refine x_fld ?_) | (with_reducible refine x_sfld ?_) | (with_reducible refine x_par ?_) | (with_reducible refine x_par3 ?_) | (with_reducible refine x_dget ?_) | (with_reducible refine x_dput ?_)
  | (with_reducible refine x_bm ?_) | (with_reducible refine x_bm0 ?_) | (with_reducible refine x_pair ?_) | (with_reducible refine x_tri ?_) | (with_reducible refine x_int ?_) | (with_reducible refine x_intb ?_) | (with_reducible refine x_abs ?_) | (with_reducible refine x_isN ?_) | (with_reducible refine x_notN ?_) | (with_reducible refine x_meth ?_) | (with_reducible refine x_make ?_)
  | (with_reducible refine x_ite1 ?_) | (with_reducible refine x_ite0 ?_)
  | (with_reducible refine x_addi ?_) | (with_reducible refine x_neg ?_) | (with_reducible refine x_i0 ?_) | (with_reducible refine x_eqi ?_) | (with_reducible refine x_eqs ?_) | (with_reducible refine x_eqb ?_) | (with_reducible refine x_nei ?_) | (with_reducible refine x_lti ?_)
  | (with_reducible refine x_forL ?_) | (with_reducible refine x_forT ?_) | (with_reducible refine x_forR ?_) | (with_reducible refine x_forR2 ?_) | (with_reducible refine x_lcL ?_) | (with_reducible refine x_lcT ?_) | (with_reducible refine x_lcR ?_)
  | (with_reducible refine x_yes ?_) | (with_reducible refine x_pcons ?_) | (with_reducible refine x_pnil ?_) | (with_reducible refine x_gcons ?_) | (with_reducible refine x_gnil ?_) | (with_reducible refine x_gattr ?_) | (with_reducible refine x_raise ?_) | (with_reducible refine x_gsub ?_) | (with_reducible refine x_fldaug ?_) | (with_reducible refine x_radd ?_) | (with_reducible refine x_ipi ?_) | ((with_reducible refine x_aug (x := ?vv) ?hh ?qq); (case hh => exact rfl))
  | ((with_reducible refine x_iteA ?hc ?q); (case hc => exact rfl)) | ((with_reducible refine x_iteB ?hc ?q); (case hc => exact rfl))
  | ((with_reducible refine x_var (v := ?vv) ?hh ?qq); (case hh => exact rfl))
  | ((with_reducible refine r_isInt (d := ?dd) ?hh ?qq); (case hh => assumption)) | ((with_reducible refine r_isBool (d := ?dd) ?hh ?qq); (case hh => assumption)) | ((with_reducible refine r_isTup (d := ?dd) ?hh ?qq); (case hh => assumption))
  | ((with_reducible refine r_isStr (d := ?dd) ?hh ?qq); (case hh => assumption)) | ((with_reducible refine r_isLst (d := ?dd) ?hh ?qq); (case hh => assumption))))
local macro_rules | `(tactic| walk_at "y") => `(tactic| (repeat (walk_at "y1")))
section
variable {X : Cx}
/-- a statement that no run reaches -/
def tNo : TS := fun _ _ _ => False
theorem ps_no {s : Stmt} : PS X s tNo := ⟨fun _ _ _ _ _ _ h => h.elim⟩
end
section
variable {P : Program} {w : World} {K : PySem.W.Frag} {mg : Str → Option Value} {base : Heap}
def SizeOk (m : Nat) : Prop := 4 ≤ m ∧ m ≤ 64 ∧ m / 2 * 2 = m
def spSize : Sp := fun vs H Q _ => ∃ m : Nat, vs = [.int m] ∧ SizeOk m ∧ Q (.bl true) H
theorem fdiv2 (m : Nat) : Int.fdiv (m : Int) 2 = ((m / 2 : Nat) : Int) := by
  rw [Int.fdiv_eq_ediv_of_nonneg _ (by decide)]
  omega
theorem cdiv2 (i : Int) : CDivN i 2 := ⟨by decide, by decide⟩
theorem cmulR (i : Int) {j : Int} (h : -(2 ^ 64) < j ∧ j < 2 ^ 64) : CMul i j := .inr h
abbrev s_is_size : Stmt := top 14
abbrev nms_is_size : List Str := ["value"]
theorem sc_is_size : FnScope nms_is_size ["value"] (defScope s_is_size) := ⟨rfl, rfl, rfl, by decide +kernel, rfl, by decide +kernel, by decide +kernel⟩
theorem ok_is_size {f : Addr} {fd : FuncData} (F : Fun K "is_size" "is_size" s_is_size f fd) (hm : mg "is_size" = some (.ref f)) (b : Binds K fd ["value"] []) (T : Bt mg) (c_is_number : Cal P w K mg base 1 "is_number" (spNum K)) : Cal P w K mg base 2 "is_size" spSize := by
  refine cal_of F hm b sc_is_size (fun vs H Q E h => ?_) (fun cdv A outer s H vs Q E hr h => ?_)
  · obtain ⟨m, rfl, _⟩ := h
    rfl
  · obtain ⟨m, rfl, ⟨h1, h2, h3⟩, q⟩ := h
    have hu64 := pass_hu64 hr
    obtain ⟨t1, hg1⟩ := T.gLEAST_SLOTS
    obtain ⟨t2, hg2⟩ := T.gMOST_SLOTS
    have g_LEAST_SLOTS : ∃ u, mg "LEAST_SLOTS" = some u ∧ RelV (.int 4) u := ⟨_, hg1, ⟨_, rfl⟩⟩
    have g_MOST_SLOTS : ∃ u, mg "MOST_SLOTS" = some u ∧ RelV (.int 64) u := ⟨_, hg2, ⟨_, rfl⟩⟩
    refine ⟨_, (pss_one (ps_ret (pe_and (pe_c c_is_number hr (by decide) (by rfl) (pa_cons (pv 0) pa_nil)) (pe_and (pe_chain op_le op_le (pe_gc (by rfl) g_LEAST_SLOTS) (pv 0) (pe_gc (by rfl) g_MOST_SLOTS)) (pe_one (pe_cmpR (oEqK K hu64) (pe_op oMul (pe_op op_fdivN (pv 0) pe_int) pe_int) (pv 0) (nomark _))))))), ?_⟩
    try dsimp only [cxOf]
    walk_at "y"
    refine x_num (.int _) ?_
    rw [show isNum (.int (m : Int)) = true from by simp [isNum]]
    walk_at "y"
    rw [show decide ((4 : Int) ≤ m) = true from decide_eq_true (by omega)]
    walk_at "y"
    rw [show decide ((m : Int) ≤ 64) = true from decide_eq_true (by omega)]
    walk_at "y"
    refine x_iC (cdiv2 _) ?_
    refine x_muli (cmulR _ (by decide)) ?_
    walk_at "y"
    rw [fdiv2, show decide ((((m / 2 : Nat) : Int) * 2) = m) = true from decide_eq_true (by omega)]
    exact q
/-! ### a disk on the heap -/
structure DiskC (K : PySem.W.Frag) (C : Addr) : Prop where
  ins : InsO K C
  a_slots : NoAttr K C "slots"
  a_safe : NoAttr K C "_safe"
  a_puts : NoAttr K C "puts"
def putD (p : Nat × PyData) : PyData := .tuple [.int (p.1 : Int), p.2]
def DiskAt (K : PySem.W.Frag) (C a : Addr) (sl sf : List PyData) (pu : List (Nat × PyData)) (H : Hp) : Prop :=
  ∃ dx v1 v2 v3, H a = some (.ins C dx [("slots", v1), ("_safe", v2), ("puts", v3)]) ∧ Wt K H v1 (.tuple sl) ∧ Wt K H v2 (.tuple sf) ∧ Wt K H v3 (.tuple (pu.map putD))
/-- what stands on a disk stands for good -/
structure DOk (sl sf : List PyData) (pu : List (Nat × PyData)) : Prop where
  hsl : ∀ d ∈ sl, tupOnly d = true
  hsf : ∀ d ∈ sf, tupOnly d = true
  hpu : ∀ p ∈ pu, tupOnly p.2 = true ∧ p.1 < sf.length
theorem putD_to {p : Nat × PyData} (h : tupOnly p.2 = true) : tupOnly (putD p) = true := by
  show (true && (tupOnly p.2 && true)) = true
  rw [h]
  rfl
theorem tup_to {ds : List PyData} (h : ∀ d ∈ ds, tupOnly d = true) : tupOnly (.tuple ds) = true := tupOnlyL_iff.mpr h
theorem DOk.tp {sl sf : List PyData} {pu : List (Nat × PyData)} (h : DOk sl sf pu) : tupOnly (.tuple (pu.map putD)) = true := tup_to fun d hd => by
  obtain ⟨p, hp, rfl⟩ := List.mem_map.mp hd
  exact putD_to (h.hpu p hp).1
theorem DiskAt.go {S : List Addr} {C a : Addr} {sl sf : List PyData} {pu : List (Nat × PyData)} {H H' : Hp} (h : DiskAt K C a sl sf pu H) (o : DOk sl sf pu) (g : Go S H H') (n : a ∉ S) : DiskAt K C a sl sf pu H' := by
  obtain ⟨dx, v1, v2, v3, e, w1, w2, w3⟩ := h
  exact ⟨dx, v1, v2, v3, g.keep a _ n e, w1.go g (tup_to o.hsl), w2.go g (tup_to o.hsf), w3.go g o.tp⟩
/-! ### making it -/
def spDiskInit (K : PySem.W.Frag) (C : Addr) : Sp := fun vs H Q _ => ∃ a dx m, vs = [.ref a, .int ((m : Nat) : Int)] ∧ H a = some (.ins C dx []) ∧ SizeOk m ∧
  ∀ H', Go [a] H H' → DiskAt K C a (List.replicate m (.tuple [])) (List.replicate m (.tuple [])) [] H' → Q .non H'
theorem flat_rep {α : Type} (x : α) : ∀ n : Nat, (List.replicate n [x]).flatten = List.replicate n x
  | 0 => rfl
  | n + 1 => by rw [List.replicate_succ, List.flatten_cons, flat_rep x n]; rfl
abbrev s_Disk___init__ : Stmt := inClass (top 15) 0
abbrev nms_Disk___init__ : List Str := ["self", "many"]
theorem sc_Disk___init__ : FnScope nms_Disk___init__ ["self", "many"] (defScope s_Disk___init__) := ⟨rfl, rfl, rfl, by decide +kernel, rfl, by decide +kernel, by decide +kernel⟩
theorem mk_Disk {f C : Addr} {fd : FuncData} (M : Mk K C f) (D : DiskC K C) (F : Fun K "__init__" "Disk.__init__" s_Disk___init__ f fd) (hm : mg "Disk" = some (.ref C)) (b : Binds K fd ["self", "many"] []) (T : Bt mg) (c_is_size : Cal P w K mg base 2 "is_size" spSize) : Mak P w K mg base 3 "Disk" C (spDiskInit K C) := by
  refine mak_of M hm F b sc_Disk___init__ (fun vs H Q E h => ?_) (fun cdv A outer s H vs Q E hr h => ?_)
  · obtain ⟨a, dx, m, rfl, _⟩ := h
    rfl
  · obtain ⟨a, dx, m, rfl, ea, hs, q⟩ := h
    have hu64 := pass_hu64 hr
    refine ⟨_, (pss_cons (ps_if (pt_not (pt_val (pe_c c_is_size hr (by decide) (by rfl) (pa_cons (pv 1) pa_nil))))
    (pss_one ps_no)
    pss_nil)
    (pss_cons (ps_fld (pv 0) (pe_callTy cTuple (by rfl) T.tuple (by decide +kernel) (pa_cons (pe_op oMul (pe_lst (pa_cons (pe_tup pa_nil) pa_nil)) (pv 1)) pa_nil)) rfl)
    (pss_cons (ps_fld (pv 0) (pe_fld (pv 0) rfl) rfl)
    (pss_one (ps_fld (pv 0) (pe_tup pa_nil) rfl))))), ?_⟩
    try dsimp only [cxOf]
    walk_at "y"
    refine ⟨m, rfl, hs, ?_⟩
    walk_at "y"
    refine x_mkr fun p1 H1 e1 n1 h1 => ?_
    walk_at "y"
    refine x_mkl fun p2 H2 e2 n2 h2 => ?_
    walk_at "y"
    refine x_mull h2 (by omega) (by simp; have := hs.2.1; omega) (by have := hs.2.1; omega) fun p3 H3 e3 n3 h3 => ?_
    rw [Int.toNat_natCast, flat_rep] at h3
    walk_at "y"
    refine x_tupl h3 fun p4 H4 e4 n4 h4 => ?_
    walk_at "y"
    have E4 := ((e1.trans e2).trans e3).trans e4
    refine x_ksfld (E4 _ _ ea) D.ins.cl D.a_slots (by simp) rfl fun H5 g5 h5 => ?_
    replace h5 : H5 a = some (.ins C dx [_]) := h5
    walk_at "y"
    refine x_kfld h5 D.ins.cl D.a_slots rfl ?_
    walk_at "y"
    refine x_ksfld h5 D.ins.cl D.a_safe (by simp) rfl fun H6 g6 h6 => ?_
    replace h6 : H6 a = some (.ins C dx [_, _]) := h6
    walk_at "y"
    refine x_mkt (K := K) .nil fun v7 H7 e7 w7 => ?_
    walk_at "y"
    refine x_ksfld (e7 _ _ h6) D.ins.cl D.a_puts (by simp) rfl fun H8 g8 h8 => ?_
    replace h8 : H8 a = some (.ins C dx [_, _, _]) := h8
    walk_at "y"
    have G4 : Go [a] H4 H8 := ((g5.trans g6).trans e7.go).trans g8
    have w : Wt K H8 (.ref p4) (.tuple (List.replicate m (.tuple []))) := .tup (G4.tup _ _ h4) (WtL.replicate (.tup (G4.tup _ _ ((e2.trans (e3.trans e4)) _ _ h1)) .nil) m)
    exact q H8 (E4.go.trans G4) ⟨dx, _, _, _, h8, w, w, w7.go g8 rfl⟩
/-! ### put, flush -/
def spPut (K : PySem.W.Frag) (C : Addr) : Sp := fun vs H Q _ => ∃ a n y d sl sf pu, vs = [.ref a, .int ((n : Nat) : Int), y] ∧ DiskAt K C a sl sf pu H ∧ DOk sl sf pu ∧ n < sl.length ∧ Wt K H y d ∧ tupOnly d = true ∧ sl.length ≤ 64 ∧ pu.length ≤ 1000 ∧
  ∀ H', Go [a] H H' → DiskAt K C a (sl.set n d) sf (pu ++ [(n, d)]) H' → Q .non H'
theorem set_cut (sl : List PyData) (n : Nat) (d : PyData) (h : n < sl.length) : sl.take n ++ [d] ++ sl.drop (n + 1) = sl.set n d := by
  rw [List.set_eq_take_append_cons_drop, if_pos h, List.append_assoc]
  rfl
abbrev s_Disk_put : Stmt := inClass (top 15) 1
abbrev nms_Disk_put : List Str := ["self", "slot", "entry"]
theorem sc_Disk_put : FnScope nms_Disk_put ["self", "slot", "entry"] (defScope s_Disk_put) := ⟨rfl, rfl, rfl, by decide +kernel, rfl, by decide +kernel, by decide +kernel⟩
theorem ok_put {f C : Addr} {fd : FuncData} (D : DiskC K C) (me : Meth K C "put" f) (F : Fun K "put" "Disk.put" s_Disk_put f fd) (b : Binds K fd ["self", "slot", "entry"] []) (T : Bt mg) (c_is_number : Cal P w K mg base 1 "is_number" (spNum K)) : Met P w K mg base 2 C "put" (spPut K C) := by
  refine met_of D.ins.cl me F b sc_Disk_put (fun vs H Q E h => ?_) (fun cdv A outer s H vs Q E hr h => ?_)
  · obtain ⟨a, n, y, d, sl, sf, pu, rfl, _⟩ := h
    rfl
  · obtain ⟨a, n, y, d, sl, sf, pu, rfl, ⟨dx, v1, v2, v3, ea, w1, w2, w3⟩, o, hn, hy, hd, l1, l2, q⟩ := h
    have hu64 := pass_hu64 hr
    refine ⟨_, (pss_cons (ps_if (PW.pt (pw_or (pt_not (pt_val (pe_c c_is_number hr (by decide) (by rfl) (pa_cons (pv 1) pa_nil)))) (pw_or1 (pt_cmpR op_ge (pv 1) (pe_callB cLen (by rfl) T.len (by decide +kernel) (pa_cons (pe_fld (pv 0) rfl) pa_nil)) (nomark _)))))
    (pss_one ps_no)
    pss_nil)
    (pss_cons (ps_fld (pv 0) (pe_op (oAddK K) (pe_op (oAddK K) (pe_slice (oSlK K) (pe_fld (pv 0) rfl) po_none (po_some (pv 1))) (pe_tup (pa_cons (pv 2) pa_nil))) (pe_slice (oSlK K) (pe_fld (pv 0) rfl) (po_some (pe_op (oAddK K) (pv 1) pe_int)) po_none)) rfl)
    (pss_one (ps_fld (pv 0) (pe_op (oAddK K) (pe_fld (pv 0) rfl) (pe_tup (pa_cons (pe_tup (pa_cons (pv 1) (pa_cons (pv 2) pa_nil))) pa_nil))) rfl)))), ?_⟩
    try dsimp only [cxOf]
    walk_at "y"
    refine x_num (.int _) ?_
    rw [show isNum (.int (n : Int)) = true from by simp [isNum]]
    walk_at "y"
    refine x_kfld ea D.ins.cl D.a_slots rfl ?_
    walk_at "y"
    refine x_lend w1 ?_
    walk_at "y"
    rw [show decide ((n : Int) ≥ sl.length) = false from decide_eq_false (by omega)]
    walk_at "y"
    refine x_kfld ea D.ins.cl D.a_slots rfl ?_
    walk_at "y"
    refine x_slt w1 fun v4 H1 e1 w4 => ?_
    rw [cut_to] at w4
    walk_at "y"
    refine x_mkt (.cons (hy.ex e1) .nil) fun v5 H2 e2 w5 => ?_
    refine x_addt (w4.ex e2) w5 (by simp; omega) fun v6 H3 e3 w6 => ?_
    have E3 := (e1.trans e2).trans e3
    walk_at "y"
    refine x_kfld (E3 _ _ ea) D.ins.cl D.a_slots rfl ?_
    walk_at "y"
    rw [show ((n : Int) + 1) = ((n + 1 : Nat) : Int) from by omega]
    refine x_slt (w1.ex E3) fun v7 H4 e4 w7 => ?_
    rw [cut_from] at w7
    refine x_addt (w6.ex e4) w7 (by simp; omega) fun v8 H5 e5 w8 => ?_
    rw [set_cut _ _ _ hn] at w8
    walk_at "y"
    have E5 := E3.trans (e4.trans e5)
    refine x_ksfld (E5 _ _ ea) D.ins.cl D.a_slots (by simp) rfl fun H6 g6 h6 => ?_
    replace h6 : H6 a = some (.ins C dx [("slots", v8), ("_safe", v2), ("puts", v3)]) := h6
    walk_at "y"
    refine x_kfld h6 D.ins.cl D.a_puts rfl ?_
    have tp := o.tp
    have w3' := (w3.ex E5).go g6 tp
    have hy' := (hy.ex E5).go g6 hd
    walk_at "y"
    refine x_mkt (.cons (.int _) (.cons hy' .nil)) fun v9 H7 e7 w9 => ?_
    walk_at "y"
    refine x_mkt (.cons w9 .nil) fun v10 H8 e8 w10 => ?_
    refine x_addt (w3'.ex (e7.trans e8)) w10 (by simp; omega) fun v11 H9 e9 w11 => ?_
    walk_at "y"
    have E9 := (e7.trans e8).trans e9
    refine x_ksfld (E9 _ _ h6) D.ins.cl D.a_puts (by simp) rfl fun H10 g10 h10 => ?_
    replace h10 : H10 a = some (.ins C dx [("slots", v8), ("_safe", v2), ("puts", v11)]) := h10
    walk_at "y"
    have G : Go [a] H5 H10 := (g6.trans E9.go).trans g10
    have tset : ∀ x ∈ sl.set n d, tupOnly x = true := fun x hx => by
      rcases List.mem_or_eq_of_mem_set hx with z | z
      · exact o.hsl x z
      · rw [z]; exact hd
    refine q H10 (E5.go.trans G) ⟨dx, _, _, _, h10, w8.go G (tup_to tset), (w2.ex E5).go G (tup_to o.hsf), ?_⟩
    rw [List.map_append]
    refine w11.go g10 (tup_to fun x hx => ?_)
    rcases List.mem_append.mp hx with z | z
    · exact tupOnlyL_iff.mp tp x z
    · rw [List.mem_singleton.mp z]
      exact putD_to (p := (n, d)) hd
def spFlush (K : PySem.W.Frag) (C : Addr) : Sp := fun vs H Q _ => ∃ a sl sf pu, vs = [.ref a] ∧ DiskAt K C a sl sf pu H ∧ DOk sl sf pu ∧ ∀ H', Go [a] H H' → DiskAt K C a sl sl [] H' → Q .non H'
abbrev s_Disk_flush : Stmt := inClass (top 15) 2
abbrev nms_Disk_flush : List Str := ["self"]
theorem sc_Disk_flush : FnScope nms_Disk_flush ["self"] (defScope s_Disk_flush) := ⟨rfl, rfl, rfl, by decide +kernel, rfl, by decide +kernel, by decide +kernel⟩
theorem ok_flush {f C : Addr} {fd : FuncData} (D : DiskC K C) (me : Meth K C "flush" f) (F : Fun K "flush" "Disk.flush" s_Disk_flush f fd) (b : Binds K fd ["self"] []) : Met P w K mg base 1 C "flush" (spFlush K C) := by
  refine met_of D.ins.cl me F b sc_Disk_flush (fun vs H Q E h => ?_) (fun cdv A outer s H vs Q E hr h => ?_)
  · obtain ⟨a, sl, sf, pu, rfl, _⟩ := h
    rfl
  · obtain ⟨a, sl, sf, pu, rfl, ⟨dx, v1, v2, v3, ea, w1, w2, w3⟩, o, q⟩ := h
    refine ⟨_, (pss_cons (ps_fld (pv 0) (pe_fld (pv 0) rfl) rfl)
    (pss_one (ps_fld (pv 0) (pe_tup pa_nil) rfl))), ?_⟩
    try dsimp only [cxOf]
    walk_at "y"
    refine x_kfld ea D.ins.cl D.a_slots rfl ?_
    walk_at "y"
    refine x_ksfld ea D.ins.cl D.a_safe (by simp) rfl fun H1 g1 h1 => ?_
    replace h1 : H1 a = some (.ins C dx [("slots", v1), ("_safe", v1), ("puts", v3)]) := h1
    walk_at "y"
    refine x_mkt (K := K) .nil fun v4 H2 e2 w4 => ?_
    walk_at "y"
    refine x_ksfld (e2 _ _ h1) D.ins.cl D.a_puts (by simp) rfl fun H3 g3 h3 => ?_
    replace h3 : H3 a = some (.ins C dx [("slots", v1), ("_safe", v1), ("puts", v4)]) := h3
    walk_at "y"
    have G := (g1.trans e2.go).trans g3
    exact q H3 G ⟨dx, _, _, _, h3, w1.go G (tup_to o.hsl), w1.go G (tup_to o.hsl), w4.go g3 rfl⟩
/-! ### fall -/
def putAt (pu : List (Nat × PyData)) (s : List PyData) (k : Nat) : List PyData := match pu[k]? with
  | some p => s.set p.1 p.2
  | none => s
theorem putAt_some {pu : List (Nat × PyData)} {s : List PyData} {k : Nat} {p : Nat × PyData} (h : pu[k]? = some p) : putAt pu s k = s.set p.1 p.2 := by unfold putAt; rw [h]
theorem putAt_none {pu : List (Nat × PyData)} {s : List PyData} {k : Nat} (h : pu[k]? = none) : putAt pu s k = s := by unfold putAt; rw [h]
def cutP (pu : List (Nat × PyData)) (sf : List PyData) (ns : List Nat) : List PyData := ns.foldl (putAt pu) sf
theorem cutP_len (pu : List (Nat × PyData)) (ns : List Nat) : ∀ sf : List PyData, (cutP pu sf ns).length = sf.length := by
  induction ns with
  | nil => intro sf; rfl
  | cons n ns ih =>
    intro sf
    show (cutP pu _ ns).length = _
    rw [ih]
    unfold putAt
    split <;> simp
theorem cutP_take {pu : List (Nat × PyData)} {sf : List PyData} {ns : List Nat} {i n : Nat} {p : Nat × PyData} (hn : ns[i]? = some n) (hp : pu[n]? = some p) : cutP pu sf (ns.take (i + 1)) = (cutP pu sf (ns.take i)).set p.1 p.2 := by
  rw [List.take_add_one, hn]
  unfold cutP
  rw [List.foldl_append]
  show putAt pu _ n = _
  rw [putAt_some hp]
theorem cutP_to {pu : List (Nat × PyData)} (hp : ∀ p ∈ pu, tupOnly p.2 = true) (ns : List Nat) : ∀ sf : List PyData, (∀ d ∈ sf, tupOnly d = true) → ∀ d ∈ cutP pu sf ns, tupOnly d = true := by
  induction ns with
  | nil => intro sf h; exact h
  | cons n ns ih =>
    intro sf h
    refine ih _ ?_
    cases e : pu[n]? with
    | none => rw [putAt_none e]; exact h
    | some p =>
      rw [putAt_some e]
      intro d hd
      rcases List.mem_or_eq_of_mem_set hd with z | z
      · exact h d z
      · rw [z]; exact (hp p (List.mem_of_getElem? e))
def spFall (K : PySem.W.Frag) (C : Addr) : Sp := fun vs H Q _ => ∃ a v ns sl sf pu, vs = [.ref a, v] ∧ DiskAt K C a sl sf pu H ∧ DOk sl sf pu ∧ (Wt K H v (.list (numsD ns)) ∨ Wt K H v (.tuple (numsD ns))) ∧ Asc ns pu.length ∧ sf.length ≤ 64 ∧ ns.length ≤ 1000 ∧ 
  ∀ H', Go [a] H H' → DiskAt K C a (cutP pu sf ns) (cutP pu sf ns) [] H' → Q .non H'
abbrev s_Disk_fall : Stmt := inClass (top 15) 3
abbrev nms_Disk_fall : List Str := ["self", "kept", "lot", "slots", "k"]
theorem sc_Disk_fall : FnScope nms_Disk_fall ["self", "kept"] (defScope s_Disk_fall) := ⟨rfl, rfl, rfl, by decide +kernel, rfl, by decide +kernel, by decide +kernel⟩
theorem ok_fall {f C : Addr} {fd : FuncData} (D : DiskC K C) (me : Meth K C "fall" f) (F : Fun K "fall" "Disk.fall" s_Disk_fall f fd) (b : Binds K fd ["self", "kept"] []) (T : Bt mg) (c_lot_within : Cal P w K mg base 2 "lot_within" (spLot K)) : Met P w K mg base 3 C "fall" (spFall K C) := by
  refine met_of D.ins.cl me F b sc_Disk_fall (fun vs H Q E h => ?_) (fun cdv A outer s H vs Q E hr h => ?_)
  · obtain ⟨a, v, ns, sl, sf, pu, rfl, _⟩ := h
    rfl
  · obtain ⟨a, v, ns, sl, sf, pu, rfl, ⟨dx, v1, v2, v3, ea, w1, w2, w3⟩, o, hv, ha, l1, l2, q⟩ := h
    have hu64 := pass_hu64 hr
    refine ⟨_, (pss_cons (ps_set (i := 2) sc_Disk_fall.nd rfl (by first | exact Or.inl rfl | exact Or.inr rfl) (pe_c c_lot_within hr (by decide) (by rfl) (pa_cons (pv 1) (pa_cons (pe_callB cLen (by rfl) T.len (by decide +kernel) (pa_cons (pe_fld (pv 0) rfl) pa_nil)) pa_nil))))
    (pss_cons (ps_if (pt_cmpR op_isN1 (pv 2) pe_non (nomark _))
    (pss_one ps_no)
    pss_nil)
    (pss_cons (ps_set (i := 3) sc_Disk_fall.nd rfl (by first | exact Or.inl rfl | exact Or.inr rfl) (pe_callTy cList (by rfl) T.list (by decide +kernel) (pa_cons (pe_fld (pv 0) rfl) pa_nil)))
    (pss_cons (ps_for (passes_of rfl) rfl (pi_tup (pv 2)) (pg_name (i := 4) sc_Disk_fall.nd rfl (by first | exact Or.inl rfl | exact Or.inr rfl))
    (pss_one (ps_asg (pe_ix (oIxK K) (pe_ix (oIxK K) (pe_fld (pv 0) rfl) (pv 4) (fun _ _ => rfl)) pe_int (fun _ _ => rfl)) (pg_sub (pv 3) (pe_ix (oIxK K) (pe_ix (oIxK K) (pe_fld (pv 0) rfl) (pv 4) (fun _ _ => rfl)) pe_int (fun _ _ => rfl)) set_list))))
    (pss_cons (ps_fld (pv 0) (pe_callTy cTuple (by rfl) T.tuple (by decide +kernel) (pa_cons (pv 3) pa_nil)) rfl)
    (pss_cons (ps_fld (pv 0) (pe_fld (pv 0) rfl) rfl)
    (pss_one (ps_fld (pv 0) (pe_tup pa_nil) rfl)))))))), ?_⟩
    try dsimp only [cxOf]
    walk_at "y"
    refine x_kfld ea D.ins.cl D.a_puts rfl ?_
    walk_at "y"
    refine x_lend w3 ?_
    walk_at "y"
    rw [List.length_map]
    refine ⟨v, ns, pu.length, rfl, hv, ha, by omega, fun p1 H1 e1 h1 => ?_⟩
    walk_at "y"
    refine x_kfld (e1 _ _ ea) D.ins.cl D.a_safe rfl ?_
    walk_at "y"
    have w2' := w2.ex e1
    cases w2' with
    | @tup a2 xs _ ea2 wa2 =>
    refine x_lstt ea2 fun l H2 e2 n2 h2 => ?_
    walk_at "y"
    have EA : Ex H H2 := e1.trans e2
    have na : a ≠ l := fun z => by have := e1 _ _ ea; rw [z, n2] at this; cases this
    have tsf : tupOnlyL sf = true := tupOnlyL_iff.mpr o.hsf
    refine y_forT (fun i σ H' => Go [l] H2 H' ∧ ∃ (o : Option V) (ys : List V), σ = [some (.ref a), some v, some (.ref p1), some (.ref l), o] ∧ H' l = some (.lst ys) ∧ WtL K H' ys (cutP pu sf (ns.take i))) (e2 _ _ h1) ⟨Go.refl _ _, _, xs, rfl, h2, wa2.ex e2⟩ (fun i σ H' p => p.1.tup _ _ (e2 _ _ h1)) (fun i x σ H' hx p => ?_) fun σ H' p => ?_
    · obtain ⟨g, oo, ys, rfl, hl, wl⟩ := p
      obtain ⟨n, hn, rfl⟩ := nums_at hx
      have hlt := (asc_at ha hn).1
      obtain ⟨p, hp⟩ : ∃ p, pu[n]? = some p := ⟨pu[n], List.getElem?_eq_getElem hlt⟩
      have hpm := o.hpu p (List.mem_of_getElem? hp)
      have ea' := g.keep a _ (by simp [na]) (EA _ _ ea)
      have w3' := (w3.ex EA).go g o.tp
      have hpd : (pu.map putD)[n]? = some (putD p) := by rw [List.getElem?_map, hp]; rfl
      walk_at "y"
      refine x_kfld ea' D.ins.cl D.a_puts rfl ?_
      walk_at "y"
      refine x_ixd w3' rfl hpd fun u wu => ?_
      walk_at "y"
      refine x_ixd (n := 1) (d := p.2) wu rfl rfl fun u2 wu2 => ?_
      walk_at "y"
      refine x_kfld ea' D.ins.cl D.a_puts rfl ?_
      walk_at "y"
      refine x_ixd w3' rfl hpd fun u3 wu3 => ?_
      walk_at "y"
      refine x_ixd (n := 0) (d := .int (p.1 : Int)) wu3 rfl rfl fun u4 wu4 => ?_
      cases wu4
      refine x_setl hl rfl (by rw [wl.len, cutP_len]; exact hpm.2) fun H3 g3 h3 => ?_
      refine ⟨g.trans g3, _, _, rfl, h3, ?_⟩
      rw [cutP_take hn hp]
      have : tupOnlyL ((cutP pu sf (ns.take i)).set p.1 p.2) = true := tupOnlyL_iff.mpr fun x hx => by
        rcases List.mem_or_eq_of_mem_set hx with z | z
        · exact cutP_to (fun p hp => (o.hpu p hp).1) _ _ o.hsf x z
        · rw [z]; exact hpm.1
      exact (wl.set wu2 p.1).go g3 this
    · obtain ⟨g, oo, ys, rfl, hl, wl⟩ := p
      have ea' := g.keep a _ (by simp [na]) (EA _ _ ea)
      have et : ns.take (nums ns).length = ns := by unfold nums; rw [List.length_map, List.take_length]
      rw [et] at wl
      walk_at "y"
      refine x_tupl hl fun p5 H5 e5 n5 h5 => ?_
      walk_at "y"
      refine x_ksfld (e5 _ _ ea') D.ins.cl D.a_slots (by simp) rfl fun H6 g6 h6 => ?_
      replace h6 : H6 a = some (.ins C dx [("slots", .ref p5), ("_safe", .ref a2), ("puts", v3)]) := h6
      walk_at "y"
      refine x_kfld h6 D.ins.cl D.a_slots rfl ?_
      walk_at "y"
      refine x_ksfld h6 D.ins.cl D.a_safe (by simp) rfl fun H7 g7 h7 => ?_
      replace h7 : H7 a = some (.ins C dx [("slots", .ref p5), ("_safe", .ref p5), ("puts", v3)]) := h7
      walk_at "y"
      refine x_mkt (K := K) .nil fun v8 H8 e8 w8 => ?_
      walk_at "y"
      refine x_ksfld (e8 _ _ h7) D.ins.cl D.a_puts (by simp) rfl fun H9 g9 h9 => ?_
      replace h9 : H9 a = some (.ins C dx [("slots", .ref p5), ("_safe", .ref p5), ("puts", v8)]) := h9
      walk_at "y"
      have G : Go [a] H5 H9 := ((g6.trans g7).trans e8.go).trans g9
      have wt : Wt K H9 (.ref p5) (.tuple (cutP pu sf ns)) := (Wt.tup h5 (wl.ex e5)).go G (tup_to (cutP_to (fun p hp => (o.hpu p hp).1) _ _ o.hsf))
      exact q H9 (Go.fresh EA (e1.free n2) ((g.mono (by simp)).trans (e5.go.trans (G.mono (by simp))))) ⟨dx, _, _, _, h9, wt, wt, w8.go g9 rfl⟩
end
end Y
/-! part B2 -/
/-! Plain values, keys, pages. -/
namespace Y
open PySem L2
local macro_rules | `(tactic| walk_at "y1") => `(tactic| (first
  | (with_reducible refine x_seq ?_) | (with_reducible refine x_asg ?_) | (with_reducible refine x_name ?_) | (with_reducible refine x_drop ?_) | (with_reducible refine x_ret ?_) | (with_reducible refine x_retN ?_)
  | (with_reducible refine x_next ?_) | (with_reducible refine x_brk ?_) | (with_reducible refine x_ifS ?_)
  | (with_reducible refine x_c ?_) | (with_reducible refine x_op ?_) | (with_reducible refine x_un ?_) | (with_reducible refine x_cb ?_) | (with_reducible refine x_cons ?_) | (with_reducible refine x_nil ?_)
  | (with_reducible refine x_call ?_) | (with_reducible refine x_tup ?_) | (with_reducible refine x_lst ?_) | (with_reducible refine x_sl ?_) | (with_reducible refine x_nopart ?_) | (with_reducible refine x_part ?_)
  | (with_reducible refine x_andV ?_) | (with_reducible refine x_orV ?_) | (with_reducible refine x_notV ?_) | (with_reducible refine x_if ?_) | (with_reducible refine x_test ?_) | (with_reducible refine x_tb ?_)
  | (with_reducible refine x_and ?_) | (with_reducible refine x_or ?_) | (with_reducible refine x_not ?_) | (with_reducible refine x_chain ?_) | (with_reducible refine x_exbl ?_) | (with_reducible refine x_exint ?_)
  | (with_reducible refine x_fld ?_) | (with_reducible refine x_sfld ?_) | (with_reducible refine x_par ?_) | (with_reducible refine x_par3 ?_) | (with_reducible refine x_dget ?_) | (with_reducible refine x_dput ?_)
  | (with_reducible refine x_bm ?_) | (with_reducible refine x_bm0 ?_) | (with_reducible refine x_pair ?_) | (with_reducible refine x_tri ?_) | (with_reducible refine x_int ?_) | (with_reducible refine x_intb ?_) | (with_reducible refine x_abs ?_) | (with_reducible refine x_isN ?_) | (with_reducible refine x_notN ?_) | (with_reducible refine x_meth ?_) | (with_reducible refine x_make ?_)
  | (with_reducible refine x_ite1 ?_) | (with_reducible refine x_ite0 ?_)
  | (with_reducible refine x_addi ?_) | (with_reducible refine x_neg ?_) | (with_reducible refine x_i0 ?_) | (with_reducible refine x_eqi ?_) | (with_reducible refine x_eqs ?_) | (with_reducible refine x_eqb ?_) | (with_reducible refine x_nei ?_) | (with_reducible refine x_lti ?_)
  | (with_reducible refine x_forL ?_) | (with_reducible refine x_forT ?_) | (with_reducible refine x_forR ?_) | (with_reducible refine x_forR2 ?_) | (with_reducible refine x_lcL ?_) | (with_reducible refine x_lcT ?_) | (with_reducible refine x_lcR ?_)
  | (with_reducible refine x_yes ?_) | (with_reducible refine x_pcons ?_) | (with_reducible refine x_pnil ?_) | (with_reducible refine x_gcons ?_) | (with_reducible refine x_gnil ?_) | (with_reducible refine x_gattr ?_) | (with_reducible refine x_raise ?_) | (with_reducible refine x_gsub ?_) | (with_reducible refine x_fldaug ?_) | (with_reducible refine x_radd ?_) | (with_reducible refine x_ipi ?_) | ((with_reducible refine x_aug (x := ?vv) ?hh ?qq); (case hh => exact rfl))
  | ((with_reducible refine x_iteA ?hc ?q); (case hc => exact rfl)) | ((with_reducible refine x_iteB ?hc ?q); (case hc => exact rfl))
  | ((with_reducible refine x_var (v := ?vv) ?hh ?qq); (case hh => exact rfl))
  | ((with_reducible refine r_isInt (d := ?dd) ?hh ?qq); (case hh => assumption)) | ((with_reducible refine r_isBool (d := ?dd) ?hh ?qq); (case hh => assumption)) | ((with_reducible refine r_isTup (d := ?dd) ?hh ?qq); (case hh => assumption))
  | ((with_reducible refine r_isStr (d := ?dd) ?hh ?qq); (case hh => assumption)) | ((with_reducible refine r_isLst (d := ?dd) ?hh ?qq); (case hh => assumption))))
local macro_rules | `(tactic| walk_at "y") => `(tactic| (repeat (walk_at "y1")))
theorem plainL_append : ∀ (a b : List PyData), plainL (a ++ b) = (plainL a && plainL b)
  | [], b => rfl
  | x :: a, b => by
    show (isPlain x && plainL (a ++ b)) = ((isPlain x && plainL a) && plainL b)
    rw [plainL_append a b, Bool.and_assoc]
theorem nodesL_append : ∀ (a b : List PyData), nodesL (a ++ b) = nodesL a + nodesL b
  | [], b => by
    show nodesL b = 0 + nodesL b
    omega
  | x :: a, b => by
    show nodes x + nodesL (a ++ b) = nodes x + nodesL a + nodesL b
    rw [nodesL_append a b]
    omega
theorem nodes_pos (d : PyData) : 0 < nodes d := by
  cases d <;> simp [nodes]
theorem nodesL_len : ∀ a : List PyData, a.length ≤ nodesL a
  | [] => Nat.zero_le _
  | x :: a => by
    show a.length + 1 ≤ nodes x + nodesL a
    have := nodesL_len a
    have := nodes_pos x
    omega
theorem WtL.snoc_inv {K : PySem.W.Frag} {H : Hp} {y : V} : ∀ {zs : List V} {ds : List PyData}, WtL K H (zs ++ [y]) ds → ∃ es e, ds = es ++ [e] ∧ WtL K H zs es ∧ Wt K H y e
  | [], _, .cons h .nil => ⟨[], _, rfl, .nil, h⟩
  | z :: zs, _, .cons h r => by
    obtain ⟨es, e, rfl, h1, h2⟩ := WtL.snoc_inv r
    exact ⟨_ :: es, e, rfl, .cons h h1, h2⟩
section
variable {P : Program} {w : World} {K : PySem.W.Frag} {mg : Str → Option Value} {base : Heap}
/-! ### is_plain -/
def spPlain (K : PySem.W.Frag) : Sp := fun vs H Q _ => ∃ v d, vs = [v] ∧ Wt K H v d ∧ nodes d ≤ 1000 ∧ ∀ H', Ex H H' → Q (.bl (isPlain d)) H'
theorem ex_of_go {H H' H2 : Hp} {l : Addr} (e : Ex H H') (n : H l = none) (g : Go [l] H' H2) : Ex H H2 := (Go.fresh e n g).ex
abbrev s_is_plain : Stmt := top 17
abbrev nms_is_plain : List Str := ["value", "left", "thing"]
theorem sc_is_plain : FnScope nms_is_plain ["value"] (defScope s_is_plain) := ⟨rfl, rfl, rfl, by decide +kernel, rfl, by decide +kernel, by decide +kernel⟩
theorem ok_is_plain {f : Addr} {fd : FuncData} (F : Fun K "is_plain" "is_plain" s_is_plain f fd) (hm : mg "is_plain" = some (.ref f)) (b : Binds K fd ["value"] []) (T : Bt mg) : Cal P w K mg base 1 "is_plain" (spPlain K) := by
  refine cal_of F hm b sc_is_plain (fun vs H Q E h => ?_) (fun cdv A outer s H vs Q E hr h => ?_)
  · obtain ⟨v, d, rfl, _⟩ := h
    rfl
  · obtain ⟨v, d, rfl, hv, hn, q⟩ := h
    have hu64 := pass_hu64 hr
    refine ⟨_, (pss_cons (ps_set (i := 1) sc_is_plain.nd rfl (by first | exact Or.inl rfl | exact Or.inr rfl) (pe_lst (pa_cons (pv 0) pa_nil)))
    (pss_cons (ps_while (passes_of rfl) (pt_truth (pv 1) (by intro _; rfl))
    (pss_cons (ps_set (i := 2) sc_is_plain.nd rfl (by first | exact Or.inl rfl | exact Or.inr rfl) (pe_bm0 PySem.F.plainAttrs_list PySem.F.slot_list_pop PySem.F.type_list_pop mt_pop (pv 1)))
    (pss_one (ps_if (pt_val (pe_callB call_isi (by rfl) T.isinstance (by decide +kernel) (pa_cons (pv 2) (pa_cons (pe_bltn (v := .ty "tuple") (by rfl) T.tuple (by decide +kernel) rfl) pa_nil))))
    (pss_one (ps_expr (pe_bm PySem.F.plainAttrs_list PySem.F.slot_list_extend PySem.F.type_list_extend mt_extend (pv 1) (pa_cons (pe_callTy cList (by rfl) T.list (by decide +kernel) (pa_cons (pv 2) pa_nil)) pa_nil))))
    (pss_one (ps_if (PW.pt (pw_and (pt_cmpR op_notN1 (pv 2) pe_non (nomark _)) (pw_and1 (pt_not (pt_val (pe_callB call_isiT (by rfl) T.isinstance (by decide +kernel) (pa_cons (pv 2) (pa_cons (pe_tup (pa_cons (pe_bltn (v := .ty "int") (by rfl) T.int (by decide +kernel) rfl) (pa_cons (pe_bltn (v := .ty "str") (by rfl) T.str (by decide +kernel) rfl) pa_nil))) pa_nil))))))))
    (pss_one (ps_ret pe_bl))
    pss_nil))))))
    (pss_one (ps_ret pe_bl)))), ?_⟩
    try dsimp only [cxOf]
    walk_at "y"
    refine x_mkl fun l H1 e1 n1 h1 => ?_
    walk_at "y"
    refine y_while (fun m σ H' => Ex H H' ∧ ∃ (ys : List V) (ds : List PyData) (o : Option V), σ = [some v, some (.ref l), o] ∧ H' l = some (.lst ys) ∧ WtL K H ys ds ∧ plainL ds = isPlain d ∧ nodesL ds ≤ 1000 ∧ nodesL ds = m) _ ⟨e1, _, _, _, rfl, h1, .cons hv .nil, ?_, ?_, rfl⟩ (fun m σ H' p => ?_)
    · show (isPlain d && true) = isPlain d
      rw [Bool.and_true]
    · show nodes d + 0 ≤ 1000
      exact hn
    obtain ⟨e2, ys, ds, o, rfl, hl, wl, hp, hz, hm⟩ := p
    walk_at "y"
    refine ⟨_, .inl ⟨ys, SqL.of hl, rfl⟩, ?_⟩
    rcases List.eq_nil_or_concat ys with rfl | ⟨zs, y, rfl⟩
    · cases wl
      rw [show (!([] : List V).isEmpty) = false from rfl]
      walk_at "y"
      rw [show true = isPlain d from hp]
      exact q H' e2
    · rw [List.concat_eq_append] at hl wl ⊢
      obtain ⟨es, e, rfl, w1, w2⟩ := wl.snoc_inv
      rw [show (!(zs ++ [y]).isEmpty) = true from by simp]
      refine x_ite1 ⟨_, fun _ _ h => h, ?_⟩
      rw [plainL_append] at hp
      rw [nodesL_append] at hz hm
      have hn1 : nodesL [e] = nodes e := by show nodes e + 0 = nodes e; omega
      rw [hn1] at hz hm
      have hl1 : es.length ≤ nodesL es := nodesL_len es
      have hne := nodes_pos e
      walk_at "y"
      refine ⟨x_tyl hl, ?_⟩
      walk_at "y"
      refine x_pop hl fun H2 g2 h2 => ?_
      have E2 : Ex H H2 := ex_of_go e2 n1 g2
      have w2' := w2.ex E2
      rcases e with _ | bb | ii | xx | cs | cs | kv
      · walk_at "y"
        cases w2'
        walk_at "y"
        exact ⟨_, by rw [hn1.symm] at hm; omega, E2, zs, es, _, rfl, h2, w1, by rw [← hp]; exact (Bool.and_true _).symm, by omega, rfl⟩
      · walk_at "y"
        cases w2'
        walk_at "y"
        refine x_mkr fun p3 H3 e3 n3 h3 => ?_
        walk_at "y"
        refine x_isiIS (d := .bool bb) (.bl bb) h3 ?_
        rw [show (isIntg (.bool bb) || isStr (.bool bb)) = true from rfl]
        walk_at "y"
        exact ⟨_, by omega, E2.trans e3, zs, es, _, rfl, e3 _ _ h2, w1, by rw [← hp]; exact (Bool.and_true _).symm, by omega, rfl⟩
      · walk_at "y"
        cases w2'
        walk_at "y"
        refine x_mkr fun p3 H3 e3 n3 h3 => ?_
        walk_at "y"
        refine x_isiIS (d := .int ii) (.int ii) h3 ?_
        rw [show (isIntg (.int ii) || isStr (.int ii)) = true from rfl]
        walk_at "y"
        exact ⟨_, by omega, E2.trans e3, zs, es, _, rfl, e3 _ _ h2, w1, by rw [← hp]; exact (Bool.and_true _).symm, by omega, rfl⟩
      · walk_at "y"
        cases w2'
        walk_at "y"
        refine x_mkr fun p3 H3 e3 n3 h3 => ?_
        walk_at "y"
        refine x_isiIS (d := .str xx) (.str xx) h3 ?_
        rw [show (isIntg (.str xx) || isStr (.str xx)) = true from rfl]
        walk_at "y"
        exact ⟨_, by omega, E2.trans e3, zs, es, _, rfl, e3 _ _ h2, w1, by rw [← hp]; exact (Bool.and_true _).symm, by omega, rfl⟩
      · walk_at "y"
        cases w2' with
        | @lst a _ _ ea wa =>
        walk_at "y"
        refine x_mkr fun p3 H3 e3 n3 h3 => ?_
        walk_at "y"
        refine x_isiIS (d := .list cs) (.lst (e3 _ _ ea) (wa.ex e3)) h3 ?_
        rw [show (isIntg (.list cs) || isStr (.list cs)) = false from rfl]
        walk_at "y"
        rw [show false = isPlain d from by rw [← hp]; exact (Bool.and_false _).symm]
        exact q H3 (E2.trans e3)
      · cases w2' with
        | @tup a xs _ ea wa =>
        have w2' : Wt K H2 (.ref a) (.tuple cs) := .tup ea wa
        walk_at "y"
        refine ⟨x_tyl h2, ?_⟩
        walk_at "y"
        refine x_lstt ea fun p3 H3 e3 n3 h3 => ?_
        have hnd : nodes (.tuple cs) = nodesL cs + 1 := rfl
        have hlc := nodesL_len cs
        have w2'' : WtL K H xs cs := by
          cases w2 with
          | @tup _ xs0 _ ea0 wa0 =>
            have := E2 _ _ ea0
            rw [ea] at this
            cases this
            exact wa0
        walk_at "y"
        refine x_extend (e3 _ _ h2) h3 (by rw [w1.len, wa.len]; omega) fun H4 g4 h4 => ?_
        walk_at "y"
        exact ⟨_, by rw [nodesL_append]; omega, ex_of_go (E2.trans e3) n1 g4, _, _, _, rfl, h4, w1.append w2'', by rw [plainL_append, ← hp]; exact congrArg (plainL es && ·) (Bool.and_true _).symm, by rw [nodesL_append]; omega, rfl⟩
      · walk_at "y"
        cases w2' with
        | @obj a C dx fs ea c =>
        walk_at "y"
        refine x_mkr fun p3 H3 e3 n3 h3 => ?_
        walk_at "y"
        refine x_isiIS (d := .dict []) (.obj (e3 _ _ ea) c) h3 ?_
        rw [show (isIntg (.dict []) || isStr (.dict [])) = false from rfl]
        walk_at "y"
        rw [show false = isPlain d from by rw [← hp]; exact (Bool.and_false _).symm]
        exact q H3 (E2.trans e3)
end
end Y
/-! part B3 -/
/-! Keys, pages. -/
namespace Y
open PySem L2
local macro_rules | `(tactic| walk_at "y1") => `(tactic| (first
  | (with_reducible refine x_seq ?_) | (with_reducible refine x_asg ?_) | (with_reducible refine x_name ?_) | (with_reducible refine x_drop ?_) | (with_reducible refine x_ret ?_) | (with_reducible refine x_retN ?_)
  | (with_reducible refine x_next ?_) | (with_reducible refine x_brk ?_) | (with_reducible refine x_ifS ?_)
  | (with_reducible refine x_c ?_) | (with_reducible refine x_op ?_) | (with_reducible refine x_un ?_) | (with_reducible refine x_cb ?_) | (with_reducible refine x_cons ?_) | (with_reducible refine x_nil ?_)
  | (with_reducible refine x_call ?_) | (with_reducible refine x_tup ?_) | (with_reducible refine x_lst ?_) | (with_reducible refine x_sl ?_) | (with_reducible refine x_nopart ?_) | (with_reducible refine x_part ?_)
  | (with_reducible refine x_andV ?_) | (with_reducible refine x_orV ?_) | (with_reducible refine x_notV ?_) | (with_reducible refine x_if ?_) | (with_reducible refine x_test ?_) | (with_reducible refine x_tb ?_)
  | (with_reducible refine x_and ?_) | (with_reducible refine x_or ?_) | (with_reducible refine x_not ?_) | (with_reducible refine x_chain ?_) | (with_reducible refine x_exbl ?_) | (with_reducible refine x_exint ?_)
  | (with_reducible refine x_fld ?_) | (with_reducible refine x_sfld ?_) | (with_reducible refine x_par ?_) | (with_reducible refine x_par3 ?_) | (with_reducible refine x_dget ?_) | (with_reducible refine x_dput ?_)
  | (with_reducible refine x_bm ?_) | (with_reducible refine x_bm0 ?_) | (with_reducible refine x_pair ?_) | (with_reducible refine x_tri ?_) | (with_reducible refine x_int ?_) | (with_reducible refine x_intb ?_) | (with_reducible refine x_abs ?_) | (with_reducible refine x_isN ?_) | (with_reducible refine x_notN ?_) | (with_reducible refine x_meth ?_) | (with_reducible refine x_make ?_)
  | (with_reducible refine x_ite1 ?_) | (with_reducible refine x_ite0 ?_)
  | (with_reducible refine x_addi ?_) | (with_reducible refine x_neg ?_) | (with_reducible refine x_i0 ?_) | (with_reducible refine x_eqi ?_) | (with_reducible refine x_eqs ?_) | (with_reducible refine x_eqb ?_) | (with_reducible refine x_nei ?_) | (with_reducible refine x_lti ?_)
  | (with_reducible refine x_forL ?_) | (with_reducible refine x_forT ?_) | (with_reducible refine x_forR ?_) | (with_reducible refine x_forR2 ?_) | (with_reducible refine x_lcL ?_) | (with_reducible refine x_lcT ?_) | (with_reducible refine x_lcR ?_)
  | (with_reducible refine x_yes ?_) | (with_reducible refine x_pcons ?_) | (with_reducible refine x_pnil ?_) | (with_reducible refine x_gcons ?_) | (with_reducible refine x_gnil ?_) | (with_reducible refine x_gattr ?_) | (with_reducible refine x_raise ?_) | (with_reducible refine x_gsub ?_) | (with_reducible refine x_fldaug ?_) | (with_reducible refine x_radd ?_) | (with_reducible refine x_ipi ?_) | ((with_reducible refine x_aug (x := ?vv) ?hh ?qq); (case hh => exact rfl))
  | ((with_reducible refine x_iteA ?hc ?q); (case hc => exact rfl)) | ((with_reducible refine x_iteB ?hc ?q); (case hc => exact rfl))
  | ((with_reducible refine x_var (v := ?vv) ?hh ?qq); (case hh => exact rfl))
  | ((with_reducible refine r_isInt (d := ?dd) ?hh ?qq); (case hh => assumption)) | ((with_reducible refine r_isBool (d := ?dd) ?hh ?qq); (case hh => assumption)) | ((with_reducible refine r_isTup (d := ?dd) ?hh ?qq); (case hh => assumption))
  | ((with_reducible refine r_isStr (d := ?dd) ?hh ?qq); (case hh => assumption)) | ((with_reducible refine r_isLst (d := ?dd) ?hh ?qq); (case hh => assumption))))
local macro_rules | `(tactic| walk_at "y") => `(tactic| (repeat (walk_at "y1")))
section
variable {P : Program} {w : World} {K : PySem.W.Frag} {mg : Str → Option Value} {base : Heap}
/-! ### all([is_number(..) for ..]) -/
theorem bools_to (bs : List Bool) : tupOnlyL (bs.map .bool) = true := by
  induction bs with
  | nil => rfl
  | cons b bs ih => exact ih
/-! ### is_key -/
def spKey (K : PySem.W.Frag) : Sp := fun vs H Q _ => ∃ v d, vs = [v] ∧ Wt K H v d ∧ ∀ H', Ex H H' → Q (.bl (isKey d)) H'
theorem isKey_long {ds : List PyData} (h : 3 < ds.length) : isKey (.tuple ds) = false := by
  match ds with
  | [] => rfl
  | .str _ :: r =>
    show (decide (r.length ≤ 2) && r.all isNum) = false
    rw [decide_eq_false (by simp at h; omega)]
    rfl
  | .none :: r => rfl
  | .bool _ :: r => rfl
  | .int _ :: r => rfl
  | .list _ :: r => rfl
  | .tuple _ :: r => rfl
  | .dict _ :: r => rfl
theorem isKey_head {d : PyData} {r : List PyData} (h : isStr d = false) : isKey (.tuple (d :: r)) = false := by
  cases d <;> first | rfl | simp [isStr] at h
theorem isKey_not {d : PyData} (h : isTup d = false) : isKey d = false := by
  cases d <;> first | rfl | simp [isTup] at h
abbrev s_is_key : Stmt := top 18
abbrev nms_is_key : List Str := ["value", "part"]
theorem sc_is_key : FnScope nms_is_key ["value"] (defScope s_is_key) := ⟨rfl, rfl, rfl, by decide +kernel, rfl, by decide +kernel, by decide +kernel⟩
theorem ok_is_key {f : Addr} {fd : FuncData} (F : Fun K "is_key" "is_key" s_is_key f fd) (hm : mg "is_key" = some (.ref f)) (b : Binds K fd ["value"] []) (T : Bt mg) (c_is_number : Cal P w K mg base 1 "is_number" (spNum K)) : Cal P w K mg base 2 "is_key" (spKey K) := by
  refine cal_of F hm b sc_is_key (fun vs H Q E h => ?_) (fun cdv A outer s H vs Q E hr h => ?_)
  · obtain ⟨v, d, rfl, _⟩ := h
    rfl
  · obtain ⟨v, d, rfl, hv, q⟩ := h
    have hu64 := pass_hu64 hr
    refine ⟨_, (pss_cons (ps_if (PW.pt (pw_or (pt_not (pt_val (pe_callB call_isi (by rfl) T.isinstance (by decide +kernel) (pa_cons (pv 0) (pa_cons (pe_bltn (v := .ty "tuple") (by rfl) T.tuple (by decide +kernel) rfl) pa_nil))))) (pw_or (pt_not (pt_chain op_le op_le pe_int (pe_callB cLen (by rfl) T.len (by decide +kernel) (pa_cons (pv 0) pa_nil)) pe_int)) (pw_or1 (pt_not (pt_val (pe_callB call_isi (by rfl) T.isinstance (by decide +kernel) (pa_cons (pe_ix (oIxK K) (pv 0) pe_int (fun _ _ => rfl)) (pa_cons (pe_bltn (v := .ty "str") (by rfl) T.str (by decide +kernel) rfl) pa_nil)))))))))
    (pss_one (ps_ret pe_bl))
    pss_nil)
    (pss_one (ps_ret (pe_callB (cr_all rfl) (by rfl) T.all (by decide +kernel) (pa_cons (pe_lc (own := [("part", 1)]) rfl sc_is_key.nd (pi_tup (pe_slice (oSlK K) (pv 0) (po_some pe_int) po_none)) (blkOk_by (N := nms_is_key) (sc := defScope s_is_key) (by decide +kernel)) (fun _ _ _ _ _ => (pg_name (i := 1) sc_is_key.nd rfl (by first | exact Or.inl rfl | exact Or.inr rfl))) (fun _ _ _ _ _ => pts_nil) (fun _ _ _ _ _ => (pe_c c_is_number hr (by decide) (by rfl) (pa_cons (pv 1) pa_nil)))) pa_nil))))), ?_⟩
    try dsimp only [cxOf]
    cases et : isTup d with
    | false =>
      have q1 := q H (Ex.refl H)
      rw [isKey_not et] at q1
      walk_at "y"
      rw [et]
      walk_at "y"
      exact q1
    | true =>
      obtain ⟨ds, rfl⟩ : ∃ ds, d = .tuple ds := by
        cases d with
        | tuple ds => exact ⟨ds, rfl⟩
        | _ => simp [isTup] at et
      walk_at "y"
      refine x_lend hv ?_
      walk_at "y"
      cases ds with
      | nil =>
        have q1 := q H (Ex.refl H)
        rw [show isKey (.tuple []) = false from rfl] at q1
        rw [show decide ((1 : Int) ≤ (([] : List PyData).length : Int)) = false from rfl]
        walk_at "y"
        exact q1
      | cons d0 r =>
        rw [show decide ((1 : Int) ≤ ((d0 :: r).length : Int)) = true from decide_eq_true (by simp; omega)]
        walk_at "y"
        by_cases h3 : (d0 :: r).length ≤ 3
        · rw [show decide (((d0 :: r).length : Int) ≤ 3) = true from decide_eq_true (by omega)]
          walk_at "y"
          refine x_ixd (n := 0) (d := d0) hv rfl rfl fun u wu => ?_
          walk_at "y"
          cases es : isStr d0 with
          | false =>
            have q1 := q H (Ex.refl H)
            rw [isKey_head es] at q1
            walk_at "y"
            exact q1
          | true =>
            obtain ⟨x0, rfl⟩ : ∃ x0, d0 = .str x0 := by
              cases d0 with
              | str x => exact ⟨x, rfl⟩
              | _ => simp [isStr] at es
            walk_at "y"
            refine x_slt hv fun u1 H1 e1 w1 => ?_
            rw [show (1 : Int) = ((1 : Nat) : Int) from rfl, cut_from, show (PyData.str x0 :: r).drop 1 = r from rfl] at w1
            cases w1 with
            | @tup a xs _ ea wa =>
            refine y_lcT [] (fun _ => True) (fun i ds => ds = ((r.take i).map isNum).map .bool) ea (by rw [wa.len]; simp at h3; omega) (by simp) keeps_true trivial rfl (fun i x H2 ds hx g2 _ hds ok no hok hno => ?_) (fun E acc ds H2 nE g2 _ hE wd t hds => ?_)
            · refine turn_name rfl ?_
              obtain ⟨e, he, we⟩ := wa.get hx
              walk_at "y"
              refine x_num (we.ex g2.ex) ?_
              refine hok _ (.bool (isNum e)) H2 (Go.refl _ _) trivial (.bl _) rfl ?_
              dsimp only
              rw [hds, List.take_add_one, he]
              simp
            · rw [wa.len, List.take_length] at hds
              subst hds
              walk_at "y"
              refine x_all hE wd ?_
              have q1 := q H2 (e1.trans g2.ex)
              rw [show isKey (.tuple (.str x0 :: r)) = (decide (r.length ≤ 2) && r.all isNum) from rfl, decide_eq_true (show r.length ≤ 2 by simp at h3; omega), Bool.true_and] at q1
              rw [show ((r.map isNum).all id) = r.all isNum from by rw [List.all_map]; rfl]
              exact q1
        · rw [show decide (((d0 :: r).length : Int) ≤ 3) = false from decide_eq_false (by omega)]
          have q1 := q H (Ex.refl H)
          rw [isKey_long (by omega)] at q1
          walk_at "y"
          exact q1
/-! ### is_page -/
structure PairSide (d : PyData) : Prop where
  h : ∀ k x, d = .tuple [k, x] → k.canLay0 = true ∧ nodes x ≤ 1000
def PageSide (d : PyData) : Prop := ∀ ds, d = .tuple ds → ∀ e ∈ ds, PairSide e
def spPage (K : PySem.W.Frag) : Sp := fun vs H Q _ => ∃ v d, vs = [v] ∧ Wt K H v d ∧ PageSide d ∧ ∀ H', Ex H H' → Q (.bl (isPage d)) H'
theorem isPage_not {d : PyData} (h : isTup d = false) : isPage d = false := by
  cases d <;> first | rfl | simp [isTup] at h
theorem pageL_cons (a : Option PyData) (k x : PyData) (r : List PyData) : isPageL a (.tuple [k, x] :: r) = (isKey k && isPlain x && aheadOk a k && isPageL (some k) r) := rfl
theorem pageL_notTup {a : Option PyData} {d : PyData} {r : List PyData} (h : isTup d = false) : isPageL a (d :: r) = false := by
  cases d <;> first | rfl | simp [isTup] at h
theorem pageL_len {a : Option PyData} {cs : List PyData} {r : List PyData} (h : cs.length ≠ 2) : isPageL a (.tuple cs :: r) = false := by
  match cs with
  | [] => rfl
  | [_] => rfl
  | [_, _] => simp at h
  | _ :: _ :: _ :: _ => rfl
theorem key_shape {k : PyData} (h : isKey k = true) : ∃ x r, k = .tuple (.str x :: r) ∧ r.all isNum = true := by
  match k with
  | .tuple (.str x :: r) =>
    have : (decide (r.length ≤ 2) && r.all isNum) = true := h
    rw [Bool.and_eq_true] at this
    exact ⟨x, r, rfl, this.2⟩
  | .tuple [] => cases h
  | .tuple (.none :: _) => cases h
  | .tuple (.bool _ :: _) => cases h
  | .tuple (.int _ :: _) => cases h
  | .tuple (.list _ :: _) => cases h
  | .tuple (.tuple _ :: _) => cases h
  | .tuple (.dict _ :: _) => cases h
  | .none => cases h
  | .bool _ => cases h
  | .int _ => cases h
  | .str _ => cases h
  | .list _ => cases h
  | .dict _ => cases h
theorem num_shape {d : PyData} (h : isNum d = true) : ∃ i, d = .int i := by
  cases d <;> first | exact ⟨_, rfl⟩ | cases h
theorem alike_nums : ∀ {a b : List PyData}, a.all isNum = true → b.all isNum = true → PySem.W.alikeAll a b = true
  | [], _, _, _ => by simp [PySem.W.alikeAll]
  | _ :: _, [], _, _ => by simp [PySem.W.alikeAll]
  | x :: a, y :: b, h1, h2 => by
    rw [List.all_cons, Bool.and_eq_true] at h1 h2
    obtain ⟨i, rfl⟩ := num_shape h1.1
    obtain ⟨j, rfl⟩ := num_shape h2.1
    rw [PySem.W.alikeAll, alike_nums h1.2 h2.2]
    simp [PySem.W.alike]
theorem alike_keys {a b : PyData} (h1 : isKey a = true) (h2 : isKey b = true) : PySem.W.alike a b = true ∧ a ≠ .none ∧ a.depth ≤ 64 := by
  obtain ⟨x, r, rfl, e1⟩ := key_shape h1
  obtain ⟨y, t, rfl, e2⟩ := key_shape h2
  refine ⟨?_, (fun z => by cases z), ?_⟩
  · show PySem.W.alikeAll (.str x :: r) (.str y :: t) = true
    rw [PySem.W.alikeAll, alike_nums e1 e2]
    simp [PySem.W.alike]
  · refine Nat.succ_le_of_lt (Nat.lt_of_le_of_lt (depthAll_le (n := 0) fun d hd => ?_) (by decide))
    rcases List.mem_cons.mp hd with rfl | hd
    · exact Nat.le_refl _
    · obtain ⟨i, rfl⟩ := num_shape (List.all_eq_true.mp e1 d hd)
      exact Nat.le_refl _
theorem x_ltkey {H : Hp} {Q : VK} {x y : V} {a b : PyData} (h1 : Wt K H x a) (h2 : Wt K H y b) (k1 : isKey a = true) (k2 : isKey b = true) (l1 : a.canLay0 = true) (l2 : b.canLay0 = true) (q : Q (.bl (PySem.W.dataLt a b)) H) : rLtU K x y H Q := by
  obtain ⟨c1, c2, c3⟩ := alike_keys k1 k2
  exact .inr ⟨a, b, h1.dp l1, h2.dp l2, c1, c2, Nat.le_trans (Nat.min_le_left _ _) c3, q⟩
/-- what the name ahead holds -/
def AhAt (K : PySem.W.Frag) (H : Hp) (v : V) : Option PyData → Prop
  | none => v = .non
  | some k => (∃ a, v = .ref a) ∧ Wt K H v k ∧ isKey k = true ∧ k.canLay0 = true
abbrev s_is_page : Stmt := top 19
abbrev nms_is_page : List Str := ["value", "ahead", "pair"]
theorem sc_is_page : FnScope nms_is_page ["value"] (defScope s_is_page) := ⟨rfl, rfl, rfl, by decide +kernel, rfl, by decide +kernel, by decide +kernel⟩
set_option maxHeartbeats 8000000 in
theorem ok_is_page {f : Addr} {fd : FuncData} (F : Fun K "is_page" "is_page" s_is_page f fd) (hm : mg "is_page" = some (.ref f)) (b : Binds K fd ["value"] []) (T : Bt mg) (c_is_key : Cal P w K mg base 2 "is_key" (spKey K)) (c_is_plain : Cal P w K mg base 1 "is_plain" (spPlain K)) : Cal P w K mg base 3 "is_page" (spPage K) := by
  refine cal_of F hm b sc_is_page (fun vs H Q E h => ?_) (fun cdv A outer s H vs Q E hr h => ?_)
  · obtain ⟨v, d, rfl, _⟩ := h
    rfl
  · obtain ⟨v, d, rfl, hv, sd, q⟩ := h
    have hu64 := pass_hu64 hr
    refine ⟨_, (pss_cons (ps_if (pt_not (pt_val (pe_callB call_isi (by rfl) T.isinstance (by decide +kernel) (pa_cons (pv 0) (pa_cons (pe_bltn (v := .ty "tuple") (by rfl) T.tuple (by decide +kernel) rfl) pa_nil)))))
    (pss_one (ps_ret pe_bl))
    pss_nil)
    (pss_cons (ps_set (i := 1) sc_is_page.nd rfl (by first | exact Or.inl rfl | exact Or.inr rfl) pe_non)
    (pss_cons (ps_for (passes_of rfl) rfl (pi_tup (pv 0)) (pg_name (i := 2) sc_is_page.nd rfl (by first | exact Or.inl rfl | exact Or.inr rfl))
    (pss_cons (ps_if (PW.pt (pw_or (pt_not (pt_val (pe_callB call_isi (by rfl) T.isinstance (by decide +kernel) (pa_cons (pv 2) (pa_cons (pe_bltn (v := .ty "tuple") (by rfl) T.tuple (by decide +kernel) rfl) pa_nil))))) (pw_or (pt_cmpR (oNeK K hu64) (pe_callB cLen (by rfl) T.len (by decide +kernel) (pa_cons (pv 2) pa_nil)) pe_int (nomark _)) (pw_or (pt_not (pt_val (pe_c c_is_key hr (by decide) (by rfl) (pa_cons (pe_ix (oIxK K) (pv 2) pe_int (fun _ _ => rfl)) pa_nil)))) (pw_or1 (pt_not (pt_val (pe_c c_is_plain hr (by decide) (by rfl) (pa_cons (pe_ix (oIxK K) (pv 2) pe_int (fun _ _ => rfl)) pa_nil)))))))))
    (pss_one (ps_ret pe_bl))
    pss_nil)
    (pss_cons (ps_if (PW.pt (pw_and (pt_cmpR op_notN1 (pv 1) pe_non (nomark _)) (pw_and1 (pt_not (pt_cmpR (oLtK K hu64) (pv 1) (pe_ix (oIxK K) (pv 2) pe_int (fun _ _ => rfl)) (nomark _))))))
    (pss_one (ps_ret pe_bl))
    pss_nil)
    (pss_one (ps_set (i := 1) sc_is_page.nd rfl (by first | exact Or.inl rfl | exact Or.inr rfl) (pe_ix (oIxK K) (pv 2) pe_int (fun _ _ => rfl)))))))
    (pss_one (ps_ret pe_bl))))), ?_⟩
    try dsimp only [cxOf]
    cases et : isTup d with
    | false =>
      have q1 := q H (Ex.refl H)
      rw [isPage_not et] at q1
      walk_at "y"
      rw [et]
      walk_at "y"
      exact q1
    | true =>
      obtain ⟨ds, rfl⟩ : ∃ ds, d = .tuple ds := by
        cases d with
        | tuple ds => exact ⟨ds, rfl⟩
        | _ => simp [isTup] at et
      have sd := sd ds rfl
      have q : ∀ H', Ex H H' → Q (.bl (isPageL none ds)) H' := q
      have hv' := hv
      cases hv' with
      | @tup p xs _ ea wa =>
      walk_at "y"
      refine y_forT (fun i σ H' => Ex H H' ∧ ∃ (a : Option PyData) (av : V) (o : Option V), σ = [some (.ref p), some av, o] ∧ AhAt K H' av a ∧ isPageL a (ds.drop i) = isPageL none ds) ea ⟨Ex.refl _, none, _, _, rfl, rfl, rfl⟩ (fun i σ H' p => p.1 _ _ ea) (fun i x σ H1 hx p => ?_) fun σ H1 p => ?_
      · obtain ⟨e1, a, av, o, rfl, ah, hp⟩ := p
        obtain ⟨e, he, we⟩ := wa.get hx
        have we := we.ex e1
        have se := sd e (List.mem_of_getElem? he)
        rw [← hp] at q
        obtain ⟨hi, he'⟩ := List.getElem?_eq_some_iff.mp he
        rw [List.drop_eq_getElem_cons hi, he'] at hp q
        cases et2 : isTup e with
        | false =>
          rw [pageL_notTup et2] at q
          walk_at "y"
          rw [et2]
          walk_at "y"
          exact q H1 e1
        | true =>
          obtain ⟨cs, rfl⟩ : ∃ cs, e = .tuple cs := by
            cases e with
            | tuple ds => exact ⟨ds, rfl⟩
            | _ => simp [isTup] at et2
          walk_at "y"
          refine x_lend we ?_
          walk_at "y"
          by_cases hl : cs.length = 2
          · obtain ⟨k, y, rfl⟩ : ∃ k y, cs = [k, y] := by
              match cs with
              | [k, y] => exact ⟨k, y, rfl⟩
              | [] => simp at hl
              | [_] => simp at hl
              | _ :: _ :: _ :: _ => simp at hl
            obtain ⟨kl, ny⟩ := se.h k y rfl
            rw [pageL_cons] at hp q
            rw [show decide ((([k, y] : List PyData).length : Int) = 2) = true from rfl]
            walk_at "y"
            refine x_ixd (n := 0) (d := k) we rfl rfl fun u wu => ?_
            walk_at "y"
            refine ⟨u, k, rfl, wu, fun H2 e2 => ?_⟩
            cases hk : isKey k with
            | false =>
              rw [hk, Bool.false_and, Bool.false_and, Bool.false_and] at q
              walk_at "y"
              exact q H2 (e1.trans e2)
            | true =>
              rw [hk, Bool.true_and] at q hp
              walk_at "y"
              refine x_ixd (n := 1) (d := y) (we.ex e2) rfl rfl fun u2 wu2 => ?_
              walk_at "y"
              refine ⟨u2, y, rfl, wu2, ny, fun H3 e3 => ?_⟩
              have E3 := e1.trans (e2.trans e3)
              have wu3 := wu.ex (e2.trans e3)
              have we3 := we.ex (e2.trans e3)
              cases hy : isPlain y with
              | false =>
                rw [hy, Bool.false_and, Bool.false_and] at q
                walk_at "y"
                exact q H3 E3
              | true =>
                rw [hy, Bool.true_and] at q hp
                obtain ⟨kx, kr, rfl, _⟩ := key_shape hk
                cases a with
                | none =>
                  have ah : av = .non := ah
                  subst ah
                  walk_at "y"
                  refine x_ixd (n := 0) we3 rfl rfl fun u4 wu4 => ?_
                  have wu4' := wu4
                  cases wu4' with
                  | @tup a4 _ _ ea4 wa4 =>
                  walk_at "y"
                  exact ⟨E3, some _, _, _, rfl, ⟨⟨a4, rfl⟩, wu4, hk, kl⟩, hp⟩
                | some k0 =>
                  obtain ⟨⟨a0, rfl⟩, wk0, hk0, kl0⟩ := ah
                  walk_at "y"
                  refine x_ixd (n := 0) we3 rfl rfl fun u4 wu4 => ?_
                  refine x_ltkey (wk0.ex (e2.trans e3)) wu4 hk0 hk kl0 kl ?_
                  have hp : (PySem.W.dataLt k0 (.tuple (.str kx :: kr)) && isPageL (some (.tuple (.str kx :: kr))) (ds.drop (i + 1))) = isPageL none ds := hp
                  have q : ∀ H', Ex H H' → Q (.bl (PySem.W.dataLt k0 (.tuple (.str kx :: kr)) && isPageL (some (.tuple (.str kx :: kr))) (ds.drop (i + 1)))) H' := q
                  cases hlt : PySem.W.dataLt k0 (.tuple (.str kx :: kr)) with
                  | false =>
                    rw [hlt, Bool.false_and] at q
                    walk_at "y"
                    exact q H3 E3
                  | true =>
                    rw [hlt, Bool.true_and] at hp
                    walk_at "y"
                    refine x_ixd (n := 0) we3 rfl rfl fun u5 wu5 => ?_
                    have wu5' := wu5
                    cases wu5' with
                    | @tup a5 _ _ ea5 wa5 =>
                    walk_at "y"
                    exact ⟨E3, some _, _, _, rfl, ⟨⟨a5, rfl⟩, wu5, hk, kl⟩, hp⟩
          · rw [pageL_len hl] at q
            rw [show decide ((cs.length : Int) = 2) = false from decide_eq_false (by omega)]
            walk_at "y"
            exact q H1 e1
      · obtain ⟨e1, a, av, o, rfl, ah, hp⟩ := p
        walk_at "y"
        rw [wa.len, List.drop_length] at hp
        rw [show true = isPageL none ds from hp]
        exact q H1 e1
end
end Y
/-! part B4 -/
/-! A page laid over another. -/
namespace Y
open PySem L2
local macro_rules | `(tactic| walk_at "y1") => `(tactic| (first
  | (with_reducible refine x_seq ?_) | (with_reducible refine x_asg ?_) | (with_reducible refine x_name ?_) | (with_reducible refine x_drop ?_) | (with_reducible refine x_ret ?_) | (with_reducible refine x_retN ?_)
  | (with_reducible refine x_next ?_) | (with_reducible refine x_brk ?_) | (with_reducible refine x_ifS ?_)
  | (with_reducible refine x_c ?_) | (with_reducible refine x_op ?_) | (with_reducible refine x_un ?_) | (with_reducible refine x_cb ?_) | (with_reducible refine x_cons ?_) | (with_reducible refine x_nil ?_)
  | (with_reducible refine x_call ?_) | (with_reducible refine x_tup ?_) | (with_reducible refine x_lst ?_) | (with_reducible refine x_sl ?_) | (with_reducible refine x_nopart ?_) | (with_reducible refine x_part ?_)
  | (with_reducible refine x_andV ?_) | (with_reducible refine x_orV ?_) | (with_reducible refine x_notV ?_) | (with_reducible refine x_if ?_) | (with_reducible refine x_test ?_) | (with_reducible refine x_tb ?_)
  | (with_reducible refine x_and ?_) | (with_reducible refine x_or ?_) | (with_reducible refine x_not ?_) | (with_reducible refine x_chain ?_) | (with_reducible refine x_exbl ?_) | (with_reducible refine x_exint ?_)
  | (with_reducible refine x_fld ?_) | (with_reducible refine x_sfld ?_) | (with_reducible refine x_par ?_) | (with_reducible refine x_par3 ?_) | (with_reducible refine x_dget ?_) | (with_reducible refine x_dput ?_)
  | (with_reducible refine x_bm ?_) | (with_reducible refine x_bm0 ?_) | (with_reducible refine x_pair ?_) | (with_reducible refine x_tri ?_) | (with_reducible refine x_int ?_) | (with_reducible refine x_intb ?_) | (with_reducible refine x_abs ?_) | (with_reducible refine x_isN ?_) | (with_reducible refine x_notN ?_) | (with_reducible refine x_meth ?_) | (with_reducible refine x_make ?_)
  | (with_reducible refine x_ite1 ?_) | (with_reducible refine x_ite0 ?_)
  | (with_reducible refine x_addi ?_) | (with_reducible refine x_neg ?_) | (with_reducible refine x_i0 ?_) | (with_reducible refine x_eqi ?_) | (with_reducible refine x_eqs ?_) | (with_reducible refine x_eqb ?_) | (with_reducible refine x_nei ?_) | (with_reducible refine x_lti ?_)
  | (with_reducible refine x_forL ?_) | (with_reducible refine x_forT ?_) | (with_reducible refine x_forR ?_) | (with_reducible refine x_forR2 ?_) | (with_reducible refine x_lcL ?_) | (with_reducible refine x_lcT ?_) | (with_reducible refine x_lcR ?_)
  | (with_reducible refine x_yes ?_) | (with_reducible refine x_pcons ?_) | (with_reducible refine x_pnil ?_) | (with_reducible refine x_gcons ?_) | (with_reducible refine x_gnil ?_) | (with_reducible refine x_gattr ?_) | (with_reducible refine x_raise ?_) | (with_reducible refine x_gsub ?_) | (with_reducible refine x_fldaug ?_) | (with_reducible refine x_radd ?_) | (with_reducible refine x_ipi ?_) | ((with_reducible refine x_aug (x := ?vv) ?hh ?qq); (case hh => exact rfl))
  | ((with_reducible refine x_iteA ?hc ?q); (case hc => exact rfl)) | ((with_reducible refine x_iteB ?hc ?q); (case hc => exact rfl))
  | ((with_reducible refine x_var (v := ?vv) ?hh ?qq); (case hh => exact rfl))
  | ((with_reducible refine r_isInt (d := ?dd) ?hh ?qq); (case hh => assumption)) | ((with_reducible refine r_isBool (d := ?dd) ?hh ?qq); (case hh => assumption)) | ((with_reducible refine r_isTup (d := ?dd) ?hh ?qq); (case hh => assumption))
  | ((with_reducible refine r_isStr (d := ?dd) ?hh ?qq); (case hh => assumption)) | ((with_reducible refine r_isLst (d := ?dd) ?hh ?qq); (case hh => assumption))))
local macro_rules | `(tactic| walk_at "y") => `(tactic| (repeat (walk_at "y1")))
/-! ### a dict of a page's pairs -/
section
variable {K : PySem.W.Frag} {σ : L2.St} {H : Hp} {Q : VK} {g : TG} {tt : TT} {tk tv te : TE} {vs : List Nat} {a : Addr} {xs : List V}
def kDqT (K : PySem.W.Frag) (g : TG) (tt : TT) (tk tv : TE) (vs : List Nat) (σ : L2.St) (x : V) (H1 : Hp) (Q : VK) : Prop := ∃ a, x = .ref a ∧ (∃ xs, SqT K H1 a xs) ∧ ∀ D, H1 D = none → ∃ W : Nat → Nat → Hp → Prop, (∃ m, W 0 m (upd H1 D (.dT []))) ∧ ∀ i m H, W i m H →
  ((Itt K a).stop i H ∧ Q (.ref D) H) ∨ ((Itt K a).go i H ∧ ∃ Nx : Hp → Prop, (∀ H', Nx H' → ∃ m', m' < m ∧ W (i + 1) m' H') ∧ ∀ x H', (Itt K a).yld i H x H' → g x (wipe σ vs) H' fun σ2 H2 => wipe σ2 vs = wipe σ vs ∧ tt σ2 H2 fun b H3 =>
    if b = true then tk σ2 H3 fun y H4 => tv σ2 H4 fun z H5 => ∃ (kvs : List (List L2.Key × V)) (k : List L2.Key) (b : Addr), y = .ref b ∧ H5 b = some (.tup (k.map kV)) ∧ H5 D = some (.dT kvs) ∧ kvs.length < sizeLine ∧ Nx (upd H5 D (.dT (putK kvs k z))) else Nx H3)
theorem x_dqT (q : te σ H fun x H1 => kDqT K g tt tk tv vs σ x H1 Q) : tDq (iTup K te) g tt tk tv vs σ H Q := q
theorem take_snoc {α : Type} {l : List α} {i : Nat} {x : α} (h : l[i]? = some x) : l.take (i + 1) = l.take i ++ [x] := by rw [List.take_add_one, h]; rfl
theorem putAll_snoc (t r : Page) (kv : KeyT × PyData) : putAll t (r ++ [kv]) = putP (putAll t r) kv.1 kv.2 := by unfold putAll; rw [List.foldl_append]; rfl
theorem pair_at {x : V} {H : Hp} {xs : List V} {p : Page} {i : Nat} (w : WtL K H xs (p.map pairD)) (h : xs[i]? = some x) : ∃ kv, p[i]? = some kv ∧ Wt K H x (pairD kv) := by
  obtain ⟨d, hd, wd⟩ := w.get h
  rw [List.getElem?_map] at hd
  cases e : p[i]? with
  | none => rw [e] at hd; cases hd
  | some kv => rw [e] at hd; cases hd; exact ⟨kv, rfl, wd⟩
theorem y_dqT {p : Page} (h : H a = some (.tup xs)) (w : WtL K H xs (p.map pairD)) (hp : PageOk p)
    (turn : ∀ x kv H1 (N : Hp → Prop), Ex H H1 → Wt K H1 x (pairD kv) → ∀ ok : V → V → Hp → Prop, (∀ y z H4, Ex H1 H4 → Wt K H4 y (tkD kv.1) → Wt K H4 z kv.2 → ok y z H4) → g x (wipe σ vs) H1 fun σ2 H2 => wipe σ2 vs = wipe σ vs ∧ tt σ2 H2 fun b H3 => if b = true then tk σ2 H3 fun y H4 => tv σ2 H4 fun z H5 => ok y z H5 else N H3)
    (fin : ∀ D H', H D = none → Ex H H' → TabAt K D (putAll [] p) H' → Q (.ref D) H') : kDqT K g tt tk tv vs σ (.ref a) H Q := by
  refine ⟨a, rfl, ⟨xs, SqT.of h⟩, fun D nD => dq_tup (Qd := fun H' => Q (.ref D) H') (fun i H' => Ex H H' ∧ TabAt K D (putAll [] (p.take i)) H') ⟨Ex.new nD, [], upd_same, .nil⟩ (fun i H' _ p => SqT.of (p.1 _ _ h)) (fun i x H1 hx q => ?_) fun H' q => ?_⟩
  · obtain ⟨e1, kvs, hD, kv1⟩ := q
    obtain ⟨kv, hkv, wx⟩ := pair_at w hx
    have hm := List.mem_of_getElem? hkv
    have t0 : TabOk (putAll [] (p.take i)) := TabOk.nil.putAll (fun kv m => hp.ks kv (List.mem_of_mem_take m)) fun kv m => hp.vs kv (List.mem_of_mem_take m)
    refine turn x kv H1 _ e1 (wx.ex e1) _ fun y z H4 e4 wy wz => ?_
    obtain ⟨b, rfl, hb⟩ := key_at wy
    have hD4 := e4 _ _ hD
    have gg : Go [D] H4 (upd H4 D (.dT (putK kvs kv.1 z))) := Go.set hD4 (by intro _ z; cases z)
    have kv4 : KvL K H4 kvs (putAll [] (p.take i)) := kv1.go (S := []) e4.go t0.vs
    refine ⟨kvs, kv.1, b, rfl, hb, hD4, ?_, ex_of_go (e1.trans e4) nD gg, _, upd_same, ?_⟩
    · rw [kv1.len]
      exact Nat.lt_of_le_of_lt t0.len (by decide)
    · rw [take_snoc hkv, putAll_snoc]
      exact (kv4.put wz).go gg (t0.put (hp.ks kv hm) (hp.vs kv hm)).vs
  · rw [show xs.length = p.length from by rw [w.len, List.length_map], List.take_length] at q
    exact fin D H' nD q.1 q.2
end
/-! ### tuple([(key, pairs[key]) for key in sorted(pairs)]) -/
section
variable {K : PySem.W.Frag} {σ : L2.St} {H : Hp} {Q : VK}
abbrev tRows (K : PySem.W.Frag) (i j : Nat) : TE := tCB (rTuple K) (tCons (tLc (iList K (tCB rSortK (tCons (tVar j) tNil))) (gName i) tYes (tTup (tCons (tVar i) (tCons (tDGet (tVar j) (tVar i)) tNil))) [i]) tNil)
theorem sort_pairs {t : Page} (l : List KeyT) : (l.map fun k => (k, valP t k)).map pairD = l.map fun k => pairD (k, valP t k) := by rw [List.map_map]; rfl
theorem x_rows {i j : Nat} {D : Addr} {t : Page} (h : TabAt K D t H) (ht : TabOk t) (hj : σ[j]? = some (some (.ref D))) (e1 : ∀ x, ((wipe σ [i]).set i (some x))[i]? = some (some x)) (e2 : ∀ x, ((wipe σ [i]).set i (some x))[j]? = some (some (.ref D)))
    (e3 : ∀ x, wipe ((wipe σ [i]).set i (some x)) [i] = wipe σ [i]) (q : ∀ v H', Ex H H' → Wt K H' v (pageD (sortP t)) → Q v H') : tRows K i j σ H Q := by
  have hDn : H D ≠ none := by
    obtain ⟨kvs, e, _⟩ := h
    rw [e]; simp
  refine x_cb (x_cons (x_lcL (x_cb (x_cons (x_var hj (x_nil (x_sorted h ht fun p ws H1 ex1 n1 h1 w1 => ?_)))))))
  have hT1 : TabAt K D t H1 := by
    obtain ⟨kvs, e, kv⟩ := h
    exact ⟨kvs, ex1 _ _ e, kv.go (S := []) ex1.go ht.vs⟩
  have hlen := ht.len
  have hperm : (sortKs (t.map (·.1))).length = t.length := by rw [List.length_mergeSort, List.length_map]
  refine y_lcL [] (fun H' => TabAt K D t H') (fun n ds => ds = ((sortKs (t.map (·.1))).take n).map fun k => pairD (k, valP t k)) h1 (by simp) (by rw [w1.len, List.length_map, hperm]; omega) (by simp) (fun E Ha Hb nE gE hT => ?_) hT1 rfl (fun n x H2 ds hx g2 hT hds ok no hok hno => ?_) (fun E acc ds H2 nE g2 hT hE wd tt hds => ?_)
  · obtain ⟨kvs, e, kv⟩ := hT
    have : D ≠ E := fun z => by
      obtain ⟨kvs, e, kv⟩ := hT1
      rw [z, nE] at e; cases e
    exact ⟨kvs, gE.keep D _ (by simp [this]) e, kv.go gE ht.vs⟩
  · obtain ⟨d, hd, wd⟩ := w1.get hx
    rw [List.getElem?_map] at hd
    cases e : (sortKs (t.map (·.1)))[n]? with
    | none => rw [e] at hd; cases hd
    | some k =>
      rw [e] at hd
      cases hd
      have wx : Wt K H2 x (tkD k) := wd.ex g2.ex
      have hk : k ∈ t.map (·.1) := sortKs_mem.mp (List.mem_of_getElem? e)
      have hv : valOk (valP t k) = true := ht.vs _ (valP_mem hk)
      refine turn_name (e3 x) (x_tup (x_cons (x_var (e1 x) (x_cons (x_dget (x_var (e2 x) (x_var (e1 x) (x_kdgetT hT wx hk fun v wv => x_nil ?_))))))))
      refine x_mkt (.cons wx (.cons wv .nil)) fun u H3 e3 w3 => ?_
      obtain ⟨kvs, eD, kvD⟩ := hT
      refine hok _ (pairD (k, valP t k)) H3 e3.go ⟨kvs, e3 _ _ eD, kvD.go (S := []) e3.go ht.vs⟩ w3 (pairD_to (kv := (k, valP t k)) hv) ?_
      dsimp only
      rw [hds, take_snoc e]
      simp
  · rw [w1.len, List.length_map, List.take_length] at hds
    subst hds
    refine x_nil (x_tupl hE fun p3 H3 e3 n3 h3 => q _ H3 (ex1.trans (g2.ex.trans e3)) (.tup h3 ?_))
    have := wd.ex e3
    rw [← sort_pairs] at this
    exact this
/-- for pair in row: pairs[pair[0]] = pair[1], one turn at data -/
theorem tab_put {D : Addr} {t : Page} {k : KeyT} {d : PyData} {H' : Hp} (ht : TabOk t) (hk : k ∈ uni) (hv : valOk d = true) : TabOk (putP t k d) := ht.put hk hv
end
section
variable {P : Program} {w : World} {K : PySem.W.Frag} {mg : Str → Option Value} {base : Heap}
def spOver (K : PySem.W.Frag) : Sp := fun vs H Q _ => ∃ x y p r, vs = [x, y] ∧ Wt K H x (pageD p) ∧ Wt K H y (pageD r) ∧ PageOk p ∧ PageOk r ∧ ∀ v H', Ex H H' → Wt K H' v (pageD (over p r)) → Q v H'
abbrev s_laid_over : Stmt := top 20
abbrev nms_laid_over : List Str := ["page", "row", "pairs", "pair", "key"]
theorem sc_laid_over : FnScope nms_laid_over ["page", "row"] (defScope s_laid_over) := ⟨rfl, rfl, rfl, by decide +kernel, rfl, by decide +kernel, by decide +kernel⟩
theorem ok_laid_over {f : Addr} {fd : FuncData} (F : Fun K "laid_over" "laid_over" s_laid_over f fd) (hm : mg "laid_over" = some (.ref f)) (b : Binds K fd ["page", "row"] []) (T : Bt mg) : Cal P w K mg base 1 "laid_over" (spOver K) := by
  refine cal_of F hm b sc_laid_over (fun vs H Q E h => ?_) (fun cdv A outer s H vs Q E hr h => ?_)
  · obtain ⟨x, y, p, r, rfl, _⟩ := h
    rfl
  · obtain ⟨x, y, p, r, rfl, wx, wy, hp, hr2, q⟩ := h
    have hu64 := pass_hu64 hr
    have hu1 : (A.deeper (PyProof.Rows.envOfC "laid_over" (defScope s_laid_over) s.heap.objs.size f cdv)).units + 1 < cLine := by have := hr.un; omega
    have hu := hu64
    refine ⟨_, (pss_cons (ps_set (i := 2) sc_laid_over.nd rfl (by first | exact Or.inl rfl | exact Or.inr rfl) (pe_dq hu1 (own := [("pair", 3)]) rfl sc_laid_over.nd (pi_tup (pv 0)) (blkOk_by (N := nms_laid_over) (sc := defScope s_laid_over) (by decide +kernel)) (fun _ _ _ _ _ => (pg_name (i := 3) sc_laid_over.nd rfl (by first | exact Or.inl rfl | exact Or.inr rfl))) (fun _ _ _ _ _ => pts_nil) (fun _ _ _ _ _ => (pe_ix (oIxK K) (pv 3) pe_int (fun _ _ => rfl))) (fun _ _ _ _ _ => (pe_ix (oIxK K) (pv 3) pe_int (fun _ _ => rfl)))))
    (pss_cons (ps_for (passes_of rfl) rfl (pi_tup (pv 1)) (pg_name (i := 3) sc_laid_over.nd rfl (by first | exact Or.inl rfl | exact Or.inr rfl))
    (pss_one (ps_dput hu1 (pv 2) (pe_ix (oIxK K) (pv 3) pe_int (fun _ _ => rfl)) (pe_ix (oIxK K) (pv 3) pe_int (fun _ _ => rfl)) rfl)))
    (pss_one (ps_ret (pe_callTy cTuple (by rfl) T.tuple (by decide +kernel) (pa_cons (pe_lc (own := [("key", 4)]) rfl sc_laid_over.nd (pi_list (pe_callB (call_sortK rfl hu) (by rfl) T.sorted (by decide +kernel) (pa_cons (pv 2) pa_nil))) (blkOk_by (N := nms_laid_over) (sc := defScope s_laid_over) (by decide +kernel)) (fun _ _ _ _ _ => (pg_name (i := 4) sc_laid_over.nd rfl (by first | exact Or.inl rfl | exact Or.inr rfl))) (fun _ _ _ _ _ => pts_nil) (fun _ _ _ _ _ => (pe_tup (pa_cons (pv 4) (pa_cons (pe_dget hu1 (pv 2) (pv 4) (fun _ _ => rfl)) pa_nil))))) pa_nil)))))), ?_⟩
    try dsimp only [cxOf]
    have wx' := wx
    cases wx' with
    | @tup a xs _ ea wa =>
    have wy' := wy
    cases wy' with
    | @tup b ys _ eb wb =>
    walk_at "y"
    refine x_dqT ?_
    walk_at "y"
    refine y_dqT ea wa hp (fun x kv H1 N e1 wx ok hok => ?_) fun D H1 nD e1 hD => ?_
    · refine ⟨rfl, ?_⟩
      walk_at "y"
      refine x_ixd (n := 0) (d := tkD kv.1) wx rfl rfl fun u wu => ?_
      walk_at "y"
      refine x_ixd (n := 1) (d := kv.2) wx rfl rfl fun u2 wu2 => ?_
      exact hok _ _ _ (Ex.refl _) wu wu2
    · walk_at "y"
      have t0 : TabOk (putAll [] p) := TabOk.nil.putAll hp.ks hp.vs
      have nDy : ∀ i, TabOk (putAll (putAll [] p) (r.take i)) := fun i => t0.putAll (fun kv m => hr2.ks kv (List.mem_of_mem_take m)) fun kv m => hr2.vs kv (List.mem_of_mem_take m)
      refine y_forT (fun i σ H' => Ex H H' ∧ ∃ (o o2 : Option V), σ = [some (.ref a), some (.ref b), some (.ref D), o, o2] ∧ TabAt K D (putAll (putAll [] p) (r.take i)) H') (e1 _ _ eb) ⟨e1, _, _, rfl, hD⟩ (fun i σ H' p => p.1 _ _ eb) (fun i x σ H2 hx q2 => ?_) fun σ H2 q2 => ?_
      · obtain ⟨e2, o, o2, rfl, hT⟩ := q2
        obtain ⟨kv, hkv, wx⟩ := pair_at wb hx
        have hm := List.mem_of_getElem? hkv
        have wx := wx.ex e2
        walk_at "y"
        refine x_ixd (n := 1) (d := kv.2) wx rfl rfl fun u wu => ?_
        walk_at "y"
        refine x_ixd (n := 0) (d := tkD kv.1) wx rfl rfl fun u2 wu2 => ?_
        refine x_kdputT hT (nDy i) wu2 (hr2.ks kv hm) wu (hr2.vs kv hm) fun H3 g3 h3 => ?_
        refine ⟨ex_of_go e2 nD g3, _, _, rfl, ?_⟩
        rw [take_snoc hkv, putAll_snoc]
        exact h3
      · obtain ⟨e2, o, o2, rfl, hT⟩ := q2
        rw [show ys.length = r.length from by rw [wb.len, List.length_map], List.take_length] at hT
        have hok := nDy r.length
        rw [List.take_length] at hok
        show tRows K 4 2 _ H2 Q
        exact x_rows hT hok rfl (fun _ => rfl) (fun _ => rfl) (fun _ => rfl) fun v H3 e3 w3 => q v H3 (e2.trans e3) w3
end
end Y
/-! part B5 -/
/-! Entries, slots. -/
namespace Y
open PySem L2
local macro_rules | `(tactic| walk_at "y1") => `(tactic| (first
  | (with_reducible refine x_seq ?_) | (with_reducible refine x_asg ?_) | (with_reducible refine x_name ?_) | (with_reducible refine x_drop ?_) | (with_reducible refine x_ret ?_) | (with_reducible refine x_retN ?_)
  | (with_reducible refine x_next ?_) | (with_reducible refine x_brk ?_) | (with_reducible refine x_ifS ?_)
  | (with_reducible refine x_c ?_) | (with_reducible refine x_op ?_) | (with_reducible refine x_un ?_) | (with_reducible refine x_cb ?_) | (with_reducible refine x_cons ?_) | (with_reducible refine x_nil ?_)
  | (with_reducible refine x_call ?_) | (with_reducible refine x_tup ?_) | (with_reducible refine x_lst ?_) | (with_reducible refine x_sl ?_) | (with_reducible refine x_nopart ?_) | (with_reducible refine x_part ?_)
  | (with_reducible refine x_andV ?_) | (with_reducible refine x_orV ?_) | (with_reducible refine x_notV ?_) | (with_reducible refine x_if ?_) | (with_reducible refine x_test ?_) | (with_reducible refine x_tb ?_)
  | (with_reducible refine x_and ?_) | (with_reducible refine x_or ?_) | (with_reducible refine x_not ?_) | (with_reducible refine x_chain ?_) | (with_reducible refine x_exbl ?_) | (with_reducible refine x_exint ?_)
  | (with_reducible refine x_fld ?_) | (with_reducible refine x_sfld ?_) | (with_reducible refine x_par ?_) | (with_reducible refine x_par3 ?_) | (with_reducible refine x_dget ?_) | (with_reducible refine x_dput ?_)
  | (with_reducible refine x_bm ?_) | (with_reducible refine x_bm0 ?_) | (with_reducible refine x_pair ?_) | (with_reducible refine x_tri ?_) | (with_reducible refine x_int ?_) | (with_reducible refine x_intb ?_) | (with_reducible refine x_abs ?_) | (with_reducible refine x_isN ?_) | (with_reducible refine x_notN ?_) | (with_reducible refine x_meth ?_) | (with_reducible refine x_make ?_)
  | (with_reducible refine x_ite1 ?_) | (with_reducible refine x_ite0 ?_)
  | (with_reducible refine x_addi ?_) | (with_reducible refine x_neg ?_) | (with_reducible refine x_i0 ?_) | (with_reducible refine x_eqi ?_) | (with_reducible refine x_eqs ?_) | (with_reducible refine x_eqb ?_) | (with_reducible refine x_nei ?_) | (with_reducible refine x_lti ?_)
  | (with_reducible refine x_forL ?_) | (with_reducible refine x_forT ?_) | (with_reducible refine x_forR ?_) | (with_reducible refine x_forR2 ?_) | (with_reducible refine x_lcL ?_) | (with_reducible refine x_lcT ?_) | (with_reducible refine x_lcR ?_)
  | (with_reducible refine x_yes ?_) | (with_reducible refine x_pcons ?_) | (with_reducible refine x_pnil ?_) | (with_reducible refine x_gcons ?_) | (with_reducible refine x_gnil ?_) | (with_reducible refine x_gattr ?_) | (with_reducible refine x_raise ?_) | (with_reducible refine x_gsub ?_) | (with_reducible refine x_fldaug ?_) | (with_reducible refine x_radd ?_) | (with_reducible refine x_ipi ?_) | ((with_reducible refine x_aug (x := ?vv) ?hh ?qq); (case hh => exact rfl))
  | ((with_reducible refine x_iteA ?hc ?q); (case hc => exact rfl)) | ((with_reducible refine x_iteB ?hc ?q); (case hc => exact rfl))
  | ((with_reducible refine x_var (v := ?vv) ?hh ?qq); (case hh => exact rfl))
  | ((with_reducible refine r_isInt (d := ?dd) ?hh ?qq); (case hh => assumption)) | ((with_reducible refine r_isBool (d := ?dd) ?hh ?qq); (case hh => assumption)) | ((with_reducible refine r_isTup (d := ?dd) ?hh ?qq); (case hh => assumption))
  | ((with_reducible refine r_isStr (d := ?dd) ?hh ?qq); (case hh => assumption)) | ((with_reducible refine r_isLst (d := ?dd) ?hh ?qq); (case hh => assumption))))
local macro_rules | `(tactic| walk_at "y") => `(tactic| (repeat (walk_at "y1")))
section
variable {P : Program} {w : World} {K : PySem.W.Frag} {mg : Str → Option Value} {base : Heap}
def EntSide (d : PyData) : Prop := ∀ a b c p, d = .tuple [a, b, c, p] → PageSide p
def spEntry (K : PySem.W.Frag) : Sp := fun vs H Q _ => ∃ v d, vs = [v] ∧ Wt K H v d ∧ EntSide d ∧ ∀ H', Ex H H' → Q (.bl (isEntry d)) H'
theorem isEntry_not {d : PyData} (h : isTup d = false) : isEntry d = false := by
  cases d <;> first | rfl | simp [isTup] at h
theorem isEntry_len {ds : List PyData} (h : ds.length ≠ 4) : isEntry (.tuple ds) = false := by
  match ds with
  | [] => rfl
  | [_] => rfl
  | [_, _] => rfl
  | [_, _, _] => rfl
  | [_, _, _, _] => simp at h
  | _ :: _ :: _ :: _ :: _ :: _ => rfl
abbrev s_is_entry : Stmt := top 21
abbrev nms_is_entry : List Str := ["value", "part"]
theorem sc_is_entry : FnScope nms_is_entry ["value"] (defScope s_is_entry) := ⟨rfl, rfl, rfl, by decide +kernel, rfl, by decide +kernel, by decide +kernel⟩
theorem ok_is_entry {f : Addr} {fd : FuncData} (F : Fun K "is_entry" "is_entry" s_is_entry f fd) (hm : mg "is_entry" = some (.ref f)) (b : Binds K fd ["value"] []) (T : Bt mg) (c_is_number : Cal P w K mg base 1 "is_number" (spNum K)) (c_is_page : Cal P w K mg base 3 "is_page" (spPage K)) : Cal P w K mg base 4 "is_entry" (spEntry K) := by
  refine cal_of F hm b sc_is_entry (fun vs H Q E h => ?_) (fun cdv A outer s H vs Q E hr h => ?_)
  · obtain ⟨v, d, rfl, _⟩ := h
    rfl
  · obtain ⟨v, d, rfl, hv, sd, q⟩ := h
    have hu64 := pass_hu64 hr
    refine ⟨_, (pss_cons (ps_if (PW.pt (pw_or (pt_not (pt_val (pe_callB call_isi (by rfl) T.isinstance (by decide +kernel) (pa_cons (pv 0) (pa_cons (pe_bltn (v := .ty "tuple") (by rfl) T.tuple (by decide +kernel) rfl) pa_nil))))) (pw_or1 (pt_cmpR (oNeK K hu64) (pe_callB cLen (by rfl) T.len (by decide +kernel) (pa_cons (pv 0) pa_nil)) pe_int (nomark _)))))
    (pss_one (ps_ret pe_bl))
    pss_nil)
    (pss_one (ps_ret (pe_and (pe_callB (cr_all rfl) (by rfl) T.all (by decide +kernel) (pa_cons (pe_lc (own := [("part", 1)]) rfl sc_is_entry.nd (pi_tup (pe_slice (oSlK K) (pv 0) po_none (po_some pe_int))) (blkOk_by (N := nms_is_entry) (sc := defScope s_is_entry) (by decide +kernel)) (fun _ _ _ _ _ => (pg_name (i := 1) sc_is_entry.nd rfl (by first | exact Or.inl rfl | exact Or.inr rfl))) (fun _ _ _ _ _ => pts_nil) (fun _ _ _ _ _ => (pe_c c_is_number hr (by decide) (by rfl) (pa_cons (pv 1) pa_nil)))) pa_nil)) (pe_one (pe_c c_is_page hr (by decide) (by rfl) (pa_cons (pe_ix (oIxK K) (pv 0) pe_int (fun _ _ => rfl)) pa_nil))))))), ?_⟩
    try dsimp only [cxOf]
    cases et : isTup d with
    | false =>
      have q1 := q H (Ex.refl H)
      rw [isEntry_not et] at q1
      walk_at "y"
      rw [et]
      walk_at "y"
      exact q1
    | true =>
      obtain ⟨ds, rfl⟩ : ∃ ds, d = .tuple ds := by
        cases d with
        | tuple ds => exact ⟨ds, rfl⟩
        | _ => simp [isTup] at et
      walk_at "y"
      refine x_lend hv ?_
      walk_at "y"
      by_cases hl : ds.length = 4
      · obtain ⟨a, b, c, p, rfl⟩ : ∃ a b c p, ds = [a, b, c, p] := by
          match ds with
          | [a, b, c, p] => exact ⟨a, b, c, p, rfl⟩
          | [] => simp at hl
          | [_] => simp at hl
          | [_, _] => simp at hl
          | [_, _, _] => simp at hl
          | _ :: _ :: _ :: _ :: _ :: _ => simp at hl
        rw [show decide ((([a, b, c, p] : List PyData).length : Int) = 4) = true from rfl]
        walk_at "y"
        refine x_slt hv fun u1 H1 e1 w1 => ?_
        rw [show (3 : Int) = ((3 : Nat) : Int) from rfl, cut_to, show ([a, b, c, p] : List PyData).take 3 = [a, b, c] from rfl] at w1
        cases w1 with
        | @tup l xs _ ea wa =>
        refine y_lcT [] (fun _ => True) (fun i ds => ds = (([a, b, c].take i).map isNum).map .bool) ea (by rw [wa.len]; simp) (by simp) keeps_true trivial rfl (fun i x H2 ds hx g2 _ hds ok no hok hno => ?_) (fun E acc ds H2 nE g2 _ hE wd t hds => ?_)
        · refine turn_name rfl ?_
          obtain ⟨e, he, we⟩ := wa.get hx
          walk_at "y"
          refine x_num (we.ex g2.ex) ?_
          refine hok _ (.bool (isNum e)) H2 (Go.refl _ _) trivial (.bl _) rfl ?_
          dsimp only
          rw [hds, take_snoc he]
          simp
        · rw [wa.len, List.take_length] at hds
          subst hds
          have ex2 := e1.trans g2.ex
          walk_at "y"
          refine x_all hE wd ?_
          have q : ∀ H', Ex H H' → Q (.bl (isNum a && isNum b && isNum c && isPage p)) H' := q
          rw [show (([a, b, c].map isNum).all id) = (isNum a && isNum b && isNum c) from by simp [Bool.and_assoc]]
          cases hn : isNum a && isNum b && isNum c with
          | false =>
            rw [hn, Bool.false_and] at q
            walk_at "y"
            exact q H2 ex2
          | true =>
            rw [hn, Bool.true_and] at q
            walk_at "y"
            refine x_ixd (n := 3) (d := p) (hv.ex ex2) rfl rfl fun u3 wu3 => ?_
            refine ⟨u3, p, rfl, wu3, sd a b c p rfl, fun H3 e3 => ?_⟩
            exact q H3 (ex2.trans e3)
      · have q1 := q H (Ex.refl H)
        rw [isEntry_len hl] at q1
        rw [show decide ((ds.length : Int) = 4) = false from decide_eq_false (by omega)]
        walk_at "y"
        exact q1
/-! ### are_slots -/
structure SlotSide (d : PyData) : Prop where
  sh : SeqAt.shaped d = true
  en : EntSide d
theorem sizeOk_is {m : Nat} (h : SizeOk m) : isSize (m : Int) = true := by
  obtain ⟨h1, h2, h3⟩ := h
  unfold isSize
  rw [decide_eq_true (show (0 : Int) ≤ m by omega), decide_eq_true (show (4 : Int) ≤ m by omega), decide_eq_true (show (m : Int) ≤ 64 by omega), decide_eq_true (show (m : Int) / 2 * 2 = m by omega)]
  rfl
def spSlots (K : PySem.W.Frag) : Sp := fun vs H Q _ => ∃ v ds, vs = [v] ∧ Wt K H v (.tuple ds) ∧ SizeOk ds.length ∧ (∀ d ∈ ds, SlotSide d) ∧ ∀ H', Ex H H' → Q (.bl (ds.all slotFine)) H'
abbrev s_are_slots : Stmt := top 22
abbrev nms_are_slots : List Str := ["value", "slot"]
theorem sc_are_slots : FnScope nms_are_slots ["value"] (defScope s_are_slots) := ⟨rfl, rfl, rfl, by decide +kernel, rfl, by decide +kernel, by decide +kernel⟩
theorem ok_are_slots {f : Addr} {fd : FuncData} (F : Fun K "are_slots" "are_slots" s_are_slots f fd) (hm : mg "are_slots" = some (.ref f)) (b : Binds K fd ["value"] []) (T : Bt mg) (c_is_row : Cal P w K mg base 1 "is_row" (spRow K)) (c_is_size : Cal P w K mg base 2 "is_size" spSize) (c_is_entry : Cal P w K mg base 4 "is_entry" (spEntry K)) : Cal P w K mg base 5 "are_slots" (spSlots K) := by
  refine cal_of F hm b sc_are_slots (fun vs H Q E h => ?_) (fun cdv A outer s H vs Q E hr h => ?_)
  · obtain ⟨v, d, rfl, _⟩ := h
    rfl
  · obtain ⟨v, ds, rfl, hv, hs, sd, q⟩ := h
    have hu64 := pass_hu64 hr
    refine ⟨_, (pss_cons (ps_if (PW.pt (pw_or (pt_not (pt_val (pe_c c_is_row hr (by decide) (by rfl) (pa_cons (pv 0) pa_nil)))) (pw_or1 (pt_not (pt_val (pe_c c_is_size hr (by decide) (by rfl) (pa_cons (pe_callB cLen (by rfl) T.len (by decide +kernel) (pa_cons (pv 0) pa_nil)) pa_nil)))))))
    (pss_one (ps_ret pe_bl))
    pss_nil)
    (pss_one (ps_ret (pe_callB (cr_all rfl) (by rfl) T.all (by decide +kernel) (pa_cons (pe_lc (own := [("slot", 1)]) rfl sc_are_slots.nd (pi_tup (pv 0)) (blkOk_by (N := nms_are_slots) (sc := defScope s_are_slots) (by decide +kernel)) (fun _ _ _ _ _ => (pg_name (i := 1) sc_are_slots.nd rfl (by first | exact Or.inl rfl | exact Or.inr rfl))) (fun _ _ _ _ _ => pts_nil) (fun _ _ _ _ _ => (pe_or (pe_cmpR (oEqK K hu64) (pv 1) (pe_tup pa_nil) (nomark _)) (pe_one (pe_c c_is_entry hr (by decide) (by rfl) (pa_cons (pv 1) pa_nil)))))) pa_nil))))), ?_⟩
    try dsimp only [cxOf]
    walk_at "y"
    refine x_row hv fun H1 e1 => ?_
    rw [show isRow (.tuple ds) = true from rfl]
    walk_at "y"
    refine x_lend (hv.ex e1) ?_
    refine ⟨_, rfl, hs, ?_⟩
    walk_at "y"
    have hv1 := hv.ex e1
    have hv1' := hv1
    cases hv1' with
    | @tup l xs _ ea wa =>
    refine y_lcT [] (fun _ => True) (fun i es => es = ((ds.take i).map slotFine).map .bool) ea (by rw [wa.len]; have := hs.2.1; omega) (by simp) keeps_true trivial rfl (fun i x H2 es hx g2 _ hds ok no hok hno => ?_) (fun E acc es H2 nE g2 _ hE wd t hds => ?_)
    · refine turn_name rfl ?_
      obtain ⟨e, he, we⟩ := wa.get hx
      have se := sd e (List.mem_of_getElem? he)
      have we := we.ex g2.ex
      walk_at "y"
      refine x_mkt (K := K) .nil fun u3 H3 e3 w3 => ?_
      refine x_eqd (we.ex e3) w3 se.sh rfl ?_
      have hok : ∀ H4, Ex H2 H4 → ok (.bl (slotFine e)) H4 := fun H4 e4 => hok _ (.bool (slotFine e)) H4 e4.go trivial (.bl _) rfl (by
        dsimp only
        rw [hds, take_snoc he]
        simp)
      unfold slotFine at hok
      cases heq : PyData.eqv e (.tuple []) with
      | true =>
        rw [heq, Bool.true_or] at hok
        walk_at "y"
        exact hok H3 e3
      | false =>
        rw [heq, Bool.false_or] at hok
        walk_at "y"
        exact ⟨x, e, rfl, we.ex e3, se.en, fun H4 e4 => hok H4 (e3.trans e4)⟩
    · rw [wa.len, List.take_length] at hds
      subst hds
      walk_at "y"
      refine x_all hE wd ?_
      rw [show ((ds.map slotFine).all id) = ds.all slotFine from by rw [List.all_map]; rfl]
      exact q H2 (e1.trans g2.ex)
/-- the slots of a good disk -/
theorem pageSide_ok {p : Page} (h : PageOk p) : PageSide (pageD p) := by
  intro ds e x hx
  cases e
  obtain ⟨kv, hm, rfl⟩ := List.mem_map.mp hx
  refine ⟨fun k y e => ?_⟩
  have e : PyData.tuple [tkD kv.1, kv.2] = .tuple [k, y] := e
  simp only [PyData.tuple.injEq, List.cons.injEq, and_true] at e
  obtain ⟨rfl, rfl⟩ := e
  exact ⟨key_lay (h.ks kv hm), Nat.le_trans (val_of (h.vs kv hm)).nd (by decide)⟩
theorem slotSide_ok {s : Slot} (h : SlotOk s) : SlotSide (slD s) := by
  refine ⟨(lay_slot h).shaped, fun a b c p e => ?_⟩
  cases s with
  | none => cases e
  | some x =>
    have e : PyData.tuple [.int x.g, .int x.l, .int x.n, pageD x.p] = .tuple [a, b, c, p] := e
    simp only [PyData.tuple.injEq, List.cons.injEq, and_true] at e
    rw [← e.2.2.2]
    exact pageSide_ok (h x rfl)
theorem slots_fine {S : List Slot} (h : ∀ s ∈ S, SlotOk s) : (S.map slD).all slotFine = true := by
  rw [List.all_map]
  exact List.all_eq_true.mpr fun s m => slotFine_ok (h s m)
end
end Y
/-! part M1 -/
/-! Plain: what a half reads as. -/
namespace Y
open PySem L2
structure RdW (S : List Slot) (M b g last : Nat) (es : Nat → Entry) (pg : Nat → Page) : Prop where
  at_ : ∀ i, i ≤ last → S[b + i]? = some (some (es i))
  hg : ∀ i, i ≤ last → (es i).g = g
  hn : ∀ i, i ≤ last → (es i).n = i
  hl : ∀ i, i < last → (es i).l ≤ (es (i + 1)).l
  p0 : pg 0 = (es 0).p
  pS : ∀ i, i < last → pg (i + 1) = over (pg i) (es (i + 1)).p
  lt : last < M
  stop : last + 1 < M → ∀ e, S[b + (last + 1)]? = some (some e) → ¬ (e.g = g ∧ e.n = last + 1 ∧ (es last).l ≤ e.l)
def Rd (S : List Slot) (M b g last : Nat) (page : Page) : Prop := ∃ es pg, RdW S M b g last es pg ∧ pg last = page
def Hdl (S : List Slot) (b : Nat) : Prop := ∀ e, S[b]? = some (some e) → e.n ≠ 0
inductive RH (S : List Slot) (M b : Nat) : Option (Nat × Nat × Page) → Prop
  | none : Hdl S b → RH S M b none
  | some {g last : Nat} {page : Page} : Rd S M b g last page → RH S M b (some (g, last, page))
def rhD (half : Nat) : Option (Nat × Nat × Page) → PyData
  | none => .none
  | some (g, l, p) => .tuple [.int g, .int half, .int l, pageD p]
theorem RdW.page {S : List Slot} {M b g last : Nat} {es : Nat → Entry} {pg : Nat → Page} (r : RdW S M b g last es pg) (h : ∀ s ∈ S, SlotOk s) : ∀ i, i ≤ last → PageOk (pg i)
  | 0, hi => by
    rw [r.p0]
    exact h _ (List.mem_of_getElem? (r.at_ 0 hi)) _ rfl
  | i + 1, hi => by
    rw [r.pS i (by omega)]
    exact (r.page h i (by omega)).over (h _ (List.mem_of_getElem? (r.at_ (i + 1) hi)) _ rfl)
theorem Rd.page {S : List Slot} {M b g last : Nat} {page : Page} (r : Rd S M b g last page) (h : ∀ s ∈ S, SlotOk s) : PageOk page := by
  obtain ⟨es, pg, r, rfl⟩ := r
  exact r.page h last (Nat.le_refl _)
/-- which half is read -/
def pickH (r0 r1 : Option (Nat × Nat × Page)) : Option (Nat × Nat × Nat × Page) :=
  match r0, r1 with
  | none, none => none
  | none, some (g, l, p) => some (g, 1, l, p)
  | some (g, l, p), none => some (g, 0, l, p)
  | some (g, l, p), some (g', l', p') => if g < g' then some (g', 1, l', p') else some (g, 0, l, p)
def foundD : Option (Nat × Nat × Nat × Page) → PyData
  | none => .none
  | some (g, h, l, p) => .tuple [.int g, .int h, .int l, pageD p]
end Y
/-! part B6 -/
/-! Reading back. -/
namespace Y
open PySem L2
local macro_rules | `(tactic| walk_at "y1") => `(tactic| (first
  | (with_reducible refine x_seq ?_) | (with_reducible refine x_asg ?_) | (with_reducible refine x_name ?_) | (with_reducible refine x_drop ?_) | (with_reducible refine x_ret ?_) | (with_reducible refine x_retN ?_)
  | (with_reducible refine x_next ?_) | (with_reducible refine x_brk ?_) | (with_reducible refine x_ifS ?_)
  | (with_reducible refine x_c ?_) | (with_reducible refine x_op ?_) | (with_reducible refine x_un ?_) | (with_reducible refine x_cb ?_) | (with_reducible refine x_cons ?_) | (with_reducible refine x_nil ?_)
  | (with_reducible refine x_call ?_) | (with_reducible refine x_tup ?_) | (with_reducible refine x_lst ?_) | (with_reducible refine x_sl ?_) | (with_reducible refine x_nopart ?_) | (with_reducible refine x_part ?_)
  | (with_reducible refine x_andV ?_) | (with_reducible refine x_orV ?_) | (with_reducible refine x_notV ?_) | (with_reducible refine x_if ?_) | (with_reducible refine x_test ?_) | (with_reducible refine x_tb ?_)
  | (with_reducible refine x_and ?_) | (with_reducible refine x_or ?_) | (with_reducible refine x_not ?_) | (with_reducible refine x_chain ?_) | (with_reducible refine x_exbl ?_) | (with_reducible refine x_exint ?_)
  | (with_reducible refine x_fld ?_) | (with_reducible refine x_sfld ?_) | (with_reducible refine x_par ?_) | (with_reducible refine x_par3 ?_) | (with_reducible refine x_dget ?_) | (with_reducible refine x_dput ?_)
  | (with_reducible refine x_bm ?_) | (with_reducible refine x_bm0 ?_) | (with_reducible refine x_pair ?_) | (with_reducible refine x_tri ?_) | (with_reducible refine x_int ?_) | (with_reducible refine x_intb ?_) | (with_reducible refine x_abs ?_) | (with_reducible refine x_isN ?_) | (with_reducible refine x_notN ?_) | (with_reducible refine x_meth ?_) | (with_reducible refine x_make ?_)
  | (with_reducible refine x_ite1 ?_) | (with_reducible refine x_ite0 ?_)
  | (with_reducible refine x_addi ?_) | (with_reducible refine x_neg ?_) | (with_reducible refine x_i0 ?_) | (with_reducible refine x_eqi ?_) | (with_reducible refine x_eqs ?_) | (with_reducible refine x_eqb ?_) | (with_reducible refine x_nei ?_) | (with_reducible refine x_lti ?_)
  | (with_reducible refine x_forL ?_) | (with_reducible refine x_forT ?_) | (with_reducible refine x_forR ?_) | (with_reducible refine x_forR2 ?_) | (with_reducible refine x_lcL ?_) | (with_reducible refine x_lcT ?_) | (with_reducible refine x_lcR ?_)
  | (with_reducible refine x_yes ?_) | (with_reducible refine x_pcons ?_) | (with_reducible refine x_pnil ?_) | (with_reducible refine x_gcons ?_) | (with_reducible refine x_gnil ?_) | (with_reducible refine x_gattr ?_) | (with_reducible refine x_raise ?_) | (with_reducible refine x_gsub ?_) | (with_reducible refine x_fldaug ?_) | (with_reducible refine x_radd ?_) | (with_reducible refine x_ipi ?_) | ((with_reducible refine x_aug (x := ?vv) ?hh ?qq); (case hh => exact rfl))
  | ((with_reducible refine x_iteA ?hc ?q); (case hc => exact rfl)) | ((with_reducible refine x_iteB ?hc ?q); (case hc => exact rfl))
  | ((with_reducible refine x_var (v := ?vv) ?hh ?qq); (case hh => exact rfl))
  | ((with_reducible refine r_isInt (d := ?dd) ?hh ?qq); (case hh => assumption)) | ((with_reducible refine r_isBool (d := ?dd) ?hh ?qq); (case hh => assumption)) | ((with_reducible refine r_isTup (d := ?dd) ?hh ?qq); (case hh => assumption))
  | ((with_reducible refine r_isStr (d := ?dd) ?hh ?qq); (case hh => assumption)) | ((with_reducible refine r_isLst (d := ?dd) ?hh ?qq); (case hh => assumption))))
local macro_rules | `(tactic| walk_at "y") => `(tactic| (repeat (walk_at "y1")))
section
variable {P : Program} {w : World} {K : PySem.W.Frag} {mg : Str → Option Value} {base : Heap}
def spHalf (K : PySem.W.Frag) : Sp := fun vs H Q _ => ∃ v S half M r, vs = [v, .int ((half : Nat) : Int)] ∧ Wt K H v (.tuple (S.map slD)) ∧ S.length = 2 * M ∧ half ≤ 1 ∧ 2 ≤ M ∧ M ≤ 32 ∧ (∀ s ∈ S, SlotOk s) ∧ RH S M (half * M) r ∧ ∀ u H', Ex H H' → Wt K H' u (rhD half r) → Q u H'
theorem slot_at {S : List Slot} {i : Nat} {s : Slot} (h : S[i]? = some s) : (S.map slD)[i]? = some (slD s) := by rw [List.getElem?_map, h]; rfl
abbrev s_read_half : Stmt := top 23
abbrev nms_read_half : List Str := ["slots", "half", "size", "base", "head", "page", "last", "ahead", "entry"]
theorem sc_read_half : FnScope nms_read_half ["slots", "half"] (defScope s_read_half) := ⟨rfl, rfl, rfl, by decide +kernel, rfl, by decide +kernel, by decide +kernel⟩
theorem ok_read_half {f : Addr} {fd : FuncData} (F : Fun K "read_half" "read_half" s_read_half f fd) (hm : mg "read_half" = some (.ref f)) (b : Binds K fd ["slots", "half"] []) (T : Bt mg) (c_laid_over : Cal P w K mg base 1 "laid_over" (spOver K)) : Cal P w K mg base 2 "read_half" (spHalf K) := by
  refine cal_of F hm b sc_read_half (fun vs H Q E h => ?_) (fun cdv A outer s H vs Q E hr h => ?_)
  · obtain ⟨v, S, half, M, r, rfl, _⟩ := h
    rfl
  · obtain ⟨v, S, half, M, r, rfl, hv, hS, hh, m1, m2, so, rh, q⟩ := h
    have hu64 := pass_hu64 hr
    refine ⟨_, (pss_cons (ps_set (i := 2) sc_read_half.nd rfl (by first | exact Or.inl rfl | exact Or.inr rfl) (pe_op op_fdivN (pe_callB cLen (by rfl) T.len (by decide +kernel) (pa_cons (pv 0) pa_nil)) pe_int))
    (pss_cons (ps_set (i := 3) sc_read_half.nd rfl (by first | exact Or.inl rfl | exact Or.inr rfl) (pe_op oMul (pv 1) (pv 2)))
    (pss_cons (ps_set (i := 4) sc_read_half.nd rfl (by first | exact Or.inl rfl | exact Or.inr rfl) (pe_ix (oIxK K) (pv 0) (pv 3) (fun _ _ => rfl)))
    (pss_cons (ps_if (PW.pt (pw_or (pt_cmpR (oEqK K hu64) (pv 4) (pe_tup pa_nil) (nomark _)) (pw_or1 (pt_cmpR (oNeK K hu64) (pe_ix (oIxK K) (pv 4) pe_int (fun _ _ => rfl)) pe_int (nomark _)))))
    (pss_one (ps_ret pe_non))
    pss_nil)
    (pss_cons (ps_set (i := 5) sc_read_half.nd rfl (by first | exact Or.inl rfl | exact Or.inr rfl) (pe_ix (oIxK K) (pv 4) pe_int (fun _ _ => rfl)))
    (pss_cons (ps_set (i := 6) sc_read_half.nd rfl (by first | exact Or.inl rfl | exact Or.inr rfl) pe_int)
    (pss_cons (ps_while (passes_of rfl) (pt_cmpR (oLtK K hu64) (pe_op (oAddK K) (pv 6) pe_int) (pv 2) (nomark _))
    (pss_cons (ps_par rfl sc_read_half.nd (i := 7) (j := 8) rfl rfl (by decide) rfl rfl (pa_cons (pe_ix (oIxK K) (pv 0) (pe_op (oAddK K) (pv 3) (pv 6)) (fun _ _ => rfl)) (pa_cons (pe_ix (oIxK K) (pv 0) (pe_op (oAddK K) (pe_op (oAddK K) (pv 3) (pv 6)) pe_int) (fun _ _ => rfl)) pa_nil)) (by rfl))
    (pss_cons (ps_if (PW.pt (pw_or (pt_cmpR (oEqK K hu64) (pv 8) (pe_tup pa_nil) (nomark _)) (pw_or (pt_cmpR (oNeK K hu64) (pe_ix (oIxK K) (pv 8) pe_int (fun _ _ => rfl)) (pe_ix (oIxK K) (pv 4) pe_int (fun _ _ => rfl)) (nomark _)) (pw_or (pt_cmpR (oNeK K hu64) (pe_ix (oIxK K) (pv 8) pe_int (fun _ _ => rfl)) (pe_op (oAddK K) (pv 6) pe_int) (nomark _)) (pw_or1 (pt_cmpR (oLtK K hu64) (pe_ix (oIxK K) (pv 8) pe_int (fun _ _ => rfl)) (pe_ix (oIxK K) (pv 7) pe_int (fun _ _ => rfl)) (nomark _)))))))
    (pss_one ps_break)
    pss_nil)
    (pss_cons (ps_aug (i := 6) sc_read_half.nd rfl (by first | exact Or.inl rfl | exact Or.inr rfl) pe_int ip_add)
    (pss_one (ps_set (i := 5) sc_read_half.nd rfl (by first | exact Or.inl rfl | exact Or.inr rfl) (pe_c c_laid_over hr (by decide) (by rfl) (pa_cons (pv 5) (pa_cons (pe_ix (oIxK K) (pv 8) pe_int (fun _ _ => rfl)) pa_nil)))))))))
    (pss_one (ps_ret (pe_tup (pa_cons (pe_ix (oIxK K) (pv 4) pe_int (fun _ _ => rfl)) (pa_cons (pv 1) (pa_cons (pv 6) (pa_cons (pv 5) pa_nil)))))))))))))), ?_⟩
    try dsimp only [cxOf]
    walk_at "y"
    refine x_lend hv ?_
    walk_at "y"
    refine x_iC (cdiv2 _) ?_
    rw [List.length_map, hS, fdiv2, show 2 * M / 2 = M by omega]
    walk_at "y"
    refine x_muli (cmulR _ (by omega)) ?_
    rw [show ((half : Int) * (M : Int)) = ((half * M : Nat) : Int) from by push_cast; rfl]
    walk_at "y"
    have hb : half * M < S.length := by
      rw [hS]
      have : half * M ≤ 1 * M := Nat.mul_le_mul_right _ hh
      omega
    generalize hbb : half * M = bb at *
    obtain ⟨s0, hs0⟩ : ∃ s0, S[bb]? = some s0 := ⟨_, List.getElem?_eq_getElem hb⟩
    refine x_ixd hv rfl (slot_at hs0) fun hd whd => ?_
    walk_at "y"
    refine x_mkt (K := K) .nil fun u1 H1 e1 w1 => ?_
    have sok : SlotOk s0 := so s0 (List.mem_of_getElem? hs0)
    refine x_eqd (whd.ex e1) w1 (lay_slot sok).shaped rfl ?_
    cases s0 with
    | none =>
      rw [show PyData.eqv (slD none) (.tuple []) = true from rfl]
      walk_at "y"
      have hr0 : r = none := by
        cases rh with
        | none => rfl
        | some h =>
          obtain ⟨es, pg, h, _⟩ := h
          have := h.at_ 0 (Nat.zero_le _)
          rw [Nat.add_zero, hs0] at this
          cases this
      subst hr0
      exact q _ _ e1 .non
    | some e0 =>
      rw [show PyData.eqv (slD (some e0)) (.tuple []) = false from rfl]
      walk_at "y"
      have whd1 := whd.ex e1
      refine x_ixd (n := 2) (d := .int (e0.n : Int)) whd1 rfl rfl fun u2 wu2 => ?_
      cases wu2
      walk_at "y"
      cases rh with
      | none hh0 =>
        have hn0 := hh0 e0 hs0
        rw [show decide ((e0.n : Int) = 0) = false from decide_eq_false (by omega)]
        walk_at "y"
        exact q _ _ e1 .non
      | @some g last page rd =>
        obtain ⟨es, pg, rd, hpg⟩ := rd
        have h0 := rd.at_ 0 (Nat.zero_le _)
        rw [Nat.add_zero, hs0] at h0
        cases h0
        rw [show decide (((es 0).n : Int) = 0) = true from decide_eq_true (by rw [rd.hn 0 (Nat.zero_le _)]; rfl)]
        walk_at "y"
        refine x_ixd (n := 3) (d := pageD (es 0).p) whd1 rfl rfl fun u3 wu3 => ?_
        walk_at "y"
        have hok : ∀ i, i ≤ last → PageOk (pg i) := rd.page so
        refine y_while (fun m σ H' => Ex H1 H' ∧ ∃ (i : Nat) (pv : V) (oa oe : Option V), m = M - i ∧ i ≤ last ∧ σ = [some v, some (.int (half : Int)), some (.int (M : Int)), some (.int (bb : Int)), some hd, some pv, some (.int (i : Int)), oa, oe] ∧ Wt K H' pv (pageD (pg i))) M ⟨Ex.refl _, 0, u3, _, _, rfl, Nat.zero_le _, rfl, by rw [rd.p0]; exact wu3⟩ (fun m σ H2 p => ?_)
        obtain ⟨e2, i, pv, oa, oe, rfl, hi, rfl, wp⟩ := p
        walk_at "y"
        have hlt := rd.lt
        have whd2 : Wt K H2 hd (entD (es 0)) := whd1.ex e2
        -- the end
        have fin : ∀ (σ : L2.St) H3, Ex H2 H3 → i = last → σ[1]? = some (some (.int (half : Int))) → σ[6]? = some (some (.int (i : Int))) → σ[5]? = some (some pv) → rIxU K hd (.int 0) H3 fun x H1 => tCons (tVar 1) (tCons (tVar 6) (tCons (tVar 5) tNil)) σ H1 fun xs H2 => mkT (x :: xs) H2 Q := fun σ H3 e3 hil z1 z2 z3 => by
          subst hil
          refine x_ixd (n := 0) (d := .int ((es 0).g : Int)) (whd2.ex e3) rfl rfl fun u4 wu4 => ?_
          cases wu4
          refine x_cons (x_var z1 (x_cons (x_var z2 (x_cons (x_var z3 (x_nil ?_))))))
          refine x_mkt (.cons (.int _) (.cons (.int _) (.cons (.int _) (.cons (wp.ex e3) .nil)))) fun u5 H5 e5 w5 => ?_
          rw [rd.hg 0 (Nat.zero_le _), hpg] at w5
          exact q u5 H5 (e1.trans (e2.trans (e3.trans e5))) w5
        by_cases hM : i + 1 < M
        · rw [show decide ((i : Int) + 1 < M) = true from decide_eq_true (by omega)]
          refine x_ite1 ⟨_, fun _ _ h => h, ?_⟩
          have hv2 := hv.ex (e1.trans e2)
          walk_at "y"
          refine x_ixd hv2 (n := bb + i) (by omega) (slot_at (rd.at_ i hi)) fun ua wa => ?_
          have hb2 : bb + (i + 1) < S.length := by
            have : half * M ≤ 1 * M := Nat.mul_le_mul_right _ hh
            omega
          obtain ⟨s1, hs1⟩ : ∃ s1, S[bb + (i + 1)]? = some s1 := ⟨_, List.getElem?_eq_getElem hb2⟩
          have sok1 : SlotOk s1 := so s1 (List.mem_of_getElem? hs1)
          walk_at "y"
          refine x_ixd hv2 (n := bb + (i + 1)) (by omega) (slot_at hs1) fun ue we => ?_
          walk_at "y"
          refine x_mkt (K := K) .nil fun u6 H3 e3 w6 => ?_
          refine x_eqd (we.ex e3) w6 (lay_slot sok1).shaped rfl ?_
          have stop : (∀ e, s1 = some e → ¬ (e.g = g ∧ e.n = i + 1 ∧ (es i).l ≤ e.l)) → i = last := fun hno => by
            rcases Nat.lt_or_eq_of_le hi with hlt2 | h
            · have h1 := rd.at_ (i + 1) hlt2
              rw [hs1] at h1
              cases h1
              exact absurd ⟨rd.hg _ hlt2, rd.hn _ hlt2, rd.hl i hlt2⟩ (hno _ rfl)
            · exact h
          cases s1 with
          | none =>
            rw [show PyData.eqv (slD none) (.tuple []) = true from rfl]
            walk_at "y"
            exact fin _ H3 e3 (stop (fun _ z => by cases z)) rfl rfl rfl
          | some e =>
            rw [show PyData.eqv (slD (some e)) (.tuple []) = false from rfl]
            have we3 : Wt K H3 ue (entD e) := we.ex e3
            have wa3 : Wt K H3 ua (entD (es i)) := wa.ex e3
            walk_at "y"
            refine x_ixd (n := 0) (d := .int (e.g : Int)) we3 rfl rfl fun u7 w7 => ?_
            cases w7
            walk_at "y"
            refine x_ixd (n := 0) (d := .int ((es 0).g : Int)) (whd2.ex e3) rfl rfl fun u8 w8 => ?_
            cases w8
            walk_at "y"
            rw [rd.hg 0 (Nat.zero_le _)]
            by_cases c1 : e.g = g
            · rw [show decide ((e.g : Int) = g) = true from decide_eq_true (by omega)]
              walk_at "y"
              refine x_ixd (n := 2) (d := .int (e.n : Int)) we3 rfl rfl fun u9 w9 => ?_
              cases w9
              walk_at "y"
              by_cases c2 : e.n = i + 1
              · rw [show decide ((e.n : Int) = (i : Int) + 1) = true from decide_eq_true (by omega)]
                walk_at "y"
                refine x_ixd (n := 1) (d := .int (e.l : Int)) we3 rfl rfl fun u10 w10 => ?_
                cases w10
                walk_at "y"
                refine x_ixd (n := 1) (d := .int ((es i).l : Int)) wa3 rfl rfl fun u11 w11 => ?_
                cases w11
                refine .inl ?_
                walk_at "y"
                by_cases c3 : (es i).l ≤ e.l
                · rw [show decide ((e.l : Int) < (es i).l) = false from decide_eq_false (by omega)]
                  have hil : i < last := by
                    rcases Nat.lt_or_eq_of_le hi with h | h
                    · exact h
                    · subst h
                      exact absurd ⟨c1, c2, c3⟩ (rd.stop hM e hs1)
                  have he : es (i + 1) = e := by
                    have h1 := rd.at_ (i + 1) hil
                    rw [hs1] at h1
                    cases h1
                    rfl
                  walk_at "y"
                  refine x_ixd (n := 3) (d := pageD e.p) we3 rfl rfl fun u12 w12 => ?_
                  walk_at "y"
                  refine ⟨pv, u12, pg i, e.p, rfl, wp.ex e3, w12, hok i hi, sok1 e rfl, fun u13 H4 e4 w13 => ?_⟩
                  walk_at "y"
                  refine ⟨M - (i + 1), by omega, e2.trans (e3.trans e4), i + 1, u13, _, _, rfl, hil, by rw [show ((i : Int) + 1) = ((i + 1 : Nat) : Int) from by omega]; rfl, ?_⟩
                  rw [rd.pS i hil, he]
                  exact w13
                · rw [show decide ((e.l : Int) < (es i).l) = true from decide_eq_true (by omega)]
                  walk_at "y"
                  exact fin _ H3 e3 (stop fun e' z h => by cases z; exact c3 h.2.2) rfl rfl rfl
              · rw [show decide ((e.n : Int) = (i : Int) + 1) = false from decide_eq_false (by omega)]
                walk_at "y"
                exact fin _ H3 e3 (stop fun e' z h => by cases z; exact c2 h.2.1) rfl rfl rfl
            · rw [show decide ((e.g : Int) = g) = false from decide_eq_false (by omega)]
              walk_at "y"
              exact fin _ H3 e3 (stop fun e' z h => by cases z; exact c1 h.1) rfl rfl rfl
        · rw [show decide ((i : Int) + 1 < M) = false from decide_eq_false (by omega)]
          refine x_ite0 ?_
          walk_at "y"
          exact fin _ H2 (Ex.refl _) (by omega) rfl rfl rfl
end
end Y
/-! part B7 -/
/-! Reading back, both halves. -/
namespace Y
open PySem L2
local macro_rules | `(tactic| walk_at "y1") => `(tactic| (first
  | (with_reducible refine x_seq ?_) | (with_reducible refine x_asg ?_) | (with_reducible refine x_name ?_) | (with_reducible refine x_drop ?_) | (with_reducible refine x_ret ?_) | (with_reducible refine x_retN ?_)
  | (with_reducible refine x_next ?_) | (with_reducible refine x_brk ?_) | (with_reducible refine x_ifS ?_)
  | (with_reducible refine x_c ?_) | (with_reducible refine x_op ?_) | (with_reducible refine x_un ?_) | (with_reducible refine x_cb ?_) | (with_reducible refine x_cons ?_) | (with_reducible refine x_nil ?_)
  | (with_reducible refine x_call ?_) | (with_reducible refine x_tup ?_) | (with_reducible refine x_lst ?_) | (with_reducible refine x_sl ?_) | (with_reducible refine x_nopart ?_) | (with_reducible refine x_part ?_)
  | (with_reducible refine x_andV ?_) | (with_reducible refine x_orV ?_) | (with_reducible refine x_notV ?_) | (with_reducible refine x_if ?_) | (with_reducible refine x_test ?_) | (with_reducible refine x_tb ?_)
  | (with_reducible refine x_and ?_) | (with_reducible refine x_or ?_) | (with_reducible refine x_not ?_) | (with_reducible refine x_chain ?_) | (with_reducible refine x_exbl ?_) | (with_reducible refine x_exint ?_)
  | (with_reducible refine x_fld ?_) | (with_reducible refine x_sfld ?_) | (with_reducible refine x_par ?_) | (with_reducible refine x_par3 ?_) | (with_reducible refine x_dget ?_) | (with_reducible refine x_dput ?_)
  | (with_reducible refine x_bm ?_) | (with_reducible refine x_bm0 ?_) | (with_reducible refine x_pair ?_) | (with_reducible refine x_tri ?_) | (with_reducible refine x_int ?_) | (with_reducible refine x_intb ?_) | (with_reducible refine x_abs ?_) | (with_reducible refine x_isN ?_) | (with_reducible refine x_notN ?_) | (with_reducible refine x_meth ?_) | (with_reducible refine x_make ?_)
  | (with_reducible refine x_ite1 ?_) | (with_reducible refine x_ite0 ?_)
  | (with_reducible refine x_addi ?_) | (with_reducible refine x_neg ?_) | (with_reducible refine x_i0 ?_) | (with_reducible refine x_eqi ?_) | (with_reducible refine x_eqs ?_) | (with_reducible refine x_eqb ?_) | (with_reducible refine x_nei ?_) | (with_reducible refine x_lti ?_)
  | (with_reducible refine x_forL ?_) | (with_reducible refine x_forT ?_) | (with_reducible refine x_forR ?_) | (with_reducible refine x_forR2 ?_) | (with_reducible refine x_lcL ?_) | (with_reducible refine x_lcT ?_) | (with_reducible refine x_lcR ?_)
  | (with_reducible refine x_yes ?_) | (with_reducible refine x_pcons ?_) | (with_reducible refine x_pnil ?_) | (with_reducible refine x_gcons ?_) | (with_reducible refine x_gnil ?_) | (with_reducible refine x_gattr ?_) | (with_reducible refine x_raise ?_) | (with_reducible refine x_gsub ?_) | (with_reducible refine x_fldaug ?_) | (with_reducible refine x_radd ?_) | (with_reducible refine x_ipi ?_) | ((with_reducible refine x_aug (x := ?vv) ?hh ?qq); (case hh => exact rfl))
  | ((with_reducible refine x_iteA ?hc ?q); (case hc => exact rfl)) | ((with_reducible refine x_iteB ?hc ?q); (case hc => exact rfl))
  | ((with_reducible refine x_var (v := ?vv) ?hh ?qq); (case hh => exact rfl))
  | ((with_reducible refine r_isInt (d := ?dd) ?hh ?qq); (case hh => assumption)) | ((with_reducible refine r_isBool (d := ?dd) ?hh ?qq); (case hh => assumption)) | ((with_reducible refine r_isTup (d := ?dd) ?hh ?qq); (case hh => assumption))
  | ((with_reducible refine r_isStr (d := ?dd) ?hh ?qq); (case hh => assumption)) | ((with_reducible refine r_isLst (d := ?dd) ?hh ?qq); (case hh => assumption))))
local macro_rules | `(tactic| walk_at "y") => `(tactic| (repeat (walk_at "y1")))
section
variable {P : Program} {w : World} {K : PySem.W.Frag} {mg : Str → Option Value} {base : Heap}
theorem rhD_to {S : List Slot} {M b half : Nat} {r : Option (Nat × Nat × Page)} (h : RH S M b r) (so : ∀ s ∈ S, SlotOk s) : tupOnly (rhD half r) = true := by
  cases h with
  | none => rfl
  | some rd =>
    have := (lay_page (rd.page so)).to
    show (true && (true && (true && (tupOnly (pageD _) && true)))) = true
    rw [this]
    rfl
def spRead (K : PySem.W.Frag) : Sp := fun vs H Q _ => ∃ v S M r0 r1, vs = [v] ∧ Wt K H v (.tuple (S.map slD)) ∧ S.length = 2 * M ∧ 2 ≤ M ∧ M ≤ 32 ∧ (∀ s ∈ S, SlotOk s) ∧ RH S M 0 r0 ∧ RH S M M r1 ∧ ∀ u H', Ex H H' → Wt K H' u (foundD (pickH r0 r1)) → Q u H'
theorem isTrue_dec {p : Prop} [Decidable p] (h : p) : decide p = true := decide_eq_true h
abbrev s_read_back : Stmt := top 24
abbrev nms_read_back : List Str := ["slots", "found", "half"]
theorem sc_read_back : FnScope nms_read_back ["slots"] (defScope s_read_back) := ⟨rfl, rfl, rfl, by decide +kernel, rfl, by decide +kernel, by decide +kernel⟩
theorem ok_read_back {f : Addr} {fd : FuncData} (F : Fun K "read_back" "read_back" s_read_back f fd) (hm : mg "read_back" = some (.ref f)) (b : Binds K fd ["slots"] []) (T : Bt mg) (c_are_slots : Cal P w K mg base 5 "are_slots" (spSlots K)) (c_read_half : Cal P w K mg base 2 "read_half" (spHalf K)) : Cal P w K mg base 6 "read_back" (spRead K) := by
  refine cal_of F hm b sc_read_back (fun vs H Q E h => ?_) (fun cdv A outer s H vs Q E hr h => ?_)
  · obtain ⟨v, S, M, r0, r1, rfl, _⟩ := h
    rfl
  · obtain ⟨v, S, M, r0, r1, rfl, hv, hS, m1, m2, so, h0, h1, q⟩ := h
    have hu64 := pass_hu64 hr
    refine ⟨_, (pss_cons (ps_if (pt_not (pt_val (pe_c c_are_slots hr (by decide) (by rfl) (pa_cons (pv 0) pa_nil))))
    (pss_one ps_no)
    pss_nil)
    (pss_cons (ps_setLc (i := 1) (own := [("half", 2)]) rfl sc_read_back.nd rfl rfl (sw_true rfl rfl rfl (by decide +kernel)) (pi_range1 (by rfl) T.range (pa_cons pe_int pa_nil)) (blkOk_by (N := nms_read_back) (sc := defScope s_read_back) (by decide +kernel)) (fun _ _ _ _ _ => (pg_name (i := 2) sc_read_back.nd rfl (by first | exact Or.inl rfl | exact Or.inr rfl))) (fun _ _ _ _ _ => pts_nil) (fun _ _ _ _ _ => (pe_c c_read_half hr (by decide) (by rfl) (pa_cons (pv 0) (pa_cons (pv 2) pa_nil)))))
    (pss_cons (ps_if (PW.pt (pw_or (pt_cmpR op_isN1 (pe_ix (oIxK K) (pv 1) pe_int (fun _ _ => rfl)) pe_non (nomark _)) (pw_or1 (PW.pt (pw_and (pt_cmpR op_notN1 (pe_ix (oIxK K) (pv 1) pe_int (fun _ _ => rfl)) pe_non (nomark _)) (pw_and1 (pt_cmpR op_gt (pe_ix (oIxK K) (pe_ix (oIxK K) (pv 1) pe_int (fun _ _ => rfl)) pe_int (fun _ _ => rfl)) (pe_ix (oIxK K) (pe_ix (oIxK K) (pv 1) pe_int (fun _ _ => rfl)) pe_int (fun _ _ => rfl)) (nomark _))))))))
    (pss_one (ps_ret (pe_ix (oIxK K) (pv 1) pe_int (fun _ _ => rfl))))
    pss_nil)
    (pss_one (ps_ret (pe_ix (oIxK K) (pv 1) pe_int (fun _ _ => rfl))))))), ?_⟩
    try dsimp only [cxOf]
    walk_at "y"
    refine ⟨v, S.map slD, rfl, hv, by rw [List.length_map, hS]; exact ⟨by omega, by omega, by omega⟩, fun d hd => ?_, fun H1 e1 => ?_⟩
    · obtain ⟨s, hs, rfl⟩ := List.mem_map.mp hd
      exact slotSide_ok (so s hs)
    rw [slots_fine so]
    walk_at "y"
    have t0 := rhD_to (half := 0) h0 so
    have t1 := rhD_to (half := 1) h1 so
    rw [show (2 : Int) = ((2 : Nat) : Int) from rfl]
    refine y_lcR (K := K) [] (fun _ => True) (fun i ds => ds = ([rhD 0 r0, rhD 1 r1] : List PyData).take i) 2 (by decide) (by simp) keeps_true trivial rfl (fun i H2 ds hi g2 _ hds ok no hok hno => ?_) (fun E acc ds H2 nE g2 _ hE wd t hds => ?_)
    · refine turn_name rfl ?_
      walk_at "y"
      rcases (show i = 0 ∨ i = 1 by omega) with rfl | rfl
      · refine ⟨v, S, 0, M, r0, rfl, hv.ex (e1.trans g2.ex), hS, by omega, m1, m2, so, by rw [Nat.zero_mul]; exact h0, fun u H3 e3 w3 => ?_⟩
        exact hok u _ H3 e3.go trivial w3 t0 (by dsimp only; rw [hds]; rfl)
      · refine ⟨v, S, 1, M, r1, rfl, hv.ex (e1.trans g2.ex), hS, by omega, m1, m2, so, by rw [Nat.one_mul]; exact h1, fun u H3 e3 w3 => ?_⟩
        exact hok u _ H3 e3.go trivial w3 t1 (by dsimp only; rw [hds]; rfl)
    · have hds : ds = [rhD 0 r0, rhD 1 r1] := hds
      subst hds
      have ex2 := e1.trans g2.ex
      cases wd with
      | @cons u0 vs0 _ _ w0 wd =>
      cases wd with
      | @cons u1 vs1 _ _ w1 wd =>
      cases wd
      walk_at "y"
      refine x_ixl hE (n := 0) rfl rfl ?_
      cases r0 with
      | none =>
        cases w0
        walk_at "y"
        refine x_ixl hE (n := 1) rfl rfl ?_
        refine q _ _ ex2 ?_
        cases r1 with
        | none => exact w1
        | some r => exact w1
      | some r =>
        obtain ⟨g, l, p⟩ := r
        have w0' := w0
        cases w0' with
        | @tup a0 xs0 _ ea0 wa0 =>
        walk_at "y"
        refine x_ixl hE (n := 1) rfl rfl ?_
        cases r1 with
        | none =>
          cases w1
          walk_at "y"
          refine x_ixl hE (n := 0) rfl rfl ?_
          exact q _ _ ex2 w0
        | some r' =>
          obtain ⟨g', l', p'⟩ := r'
          have w1' := w1
          cases w1' with
          | @tup a1 xs1 _ ea1 wa1 =>
          walk_at "y"
          refine x_ixl hE (n := 1) rfl rfl ?_
          walk_at "y"
          refine x_ixd (n := 0) (d := .int (g' : Int)) w1 rfl rfl fun u9 w9 => ?_
          cases w9
          walk_at "y"
          refine x_ixl hE (n := 0) rfl rfl ?_
          walk_at "y"
          refine x_ixd (n := 0) (d := .int (g : Int)) w0 rfl rfl fun u8 w8 => ?_
          cases w8
          walk_at "y"
          by_cases c : g < g'
          · rw [show decide ((g' : Int) > g) = true from decide_eq_true (by omega)]
            walk_at "y"
            refine x_ixl hE (n := 1) rfl rfl ?_
            refine q _ _ ex2 ?_
            unfold pickH
            dsimp only
            rw [if_pos c]
            exact w1
          · rw [show decide ((g' : Int) > g) = false from decide_eq_false (by omega)]
            walk_at "y"
            refine x_ixl hE (n := 0) rfl rfl ?_
            refine q _ _ ex2 ?_
            unfold pickH
            dsimp only
            rw [if_neg c]
            exact w0
end
end Y
/-! part B8 -/
/-! The journal: put_entry, add_row. -/
namespace Y
open PySem L2
local macro_rules | `(tactic| walk_at "y1") => `(tactic| (first
  | (with_reducible refine x_seq ?_) | (with_reducible refine x_asg ?_) | (with_reducible refine x_name ?_) | (with_reducible refine x_drop ?_) | (with_reducible refine x_ret ?_) | (with_reducible refine x_retN ?_)
  | (with_reducible refine x_next ?_) | (with_reducible refine x_brk ?_) | (with_reducible refine x_ifS ?_)
  | (with_reducible refine x_c ?_) | (with_reducible refine x_op ?_) | (with_reducible refine x_un ?_) | (with_reducible refine x_cb ?_) | (with_reducible refine x_cons ?_) | (with_reducible refine x_nil ?_)
  | (with_reducible refine x_call ?_) | (with_reducible refine x_tup ?_) | (with_reducible refine x_lst ?_) | (with_reducible refine x_sl ?_) | (with_reducible refine x_nopart ?_) | (with_reducible refine x_part ?_)
  | (with_reducible refine x_andV ?_) | (with_reducible refine x_orV ?_) | (with_reducible refine x_notV ?_) | (with_reducible refine x_if ?_) | (with_reducible refine x_test ?_) | (with_reducible refine x_tb ?_)
  | (with_reducible refine x_and ?_) | (with_reducible refine x_or ?_) | (with_reducible refine x_not ?_) | (with_reducible refine x_chain ?_) | (with_reducible refine x_exbl ?_) | (with_reducible refine x_exint ?_)
  | (with_reducible refine x_fld ?_) | (with_reducible refine x_sfld ?_) | (with_reducible refine x_par ?_) | (with_reducible refine x_par3 ?_) | (with_reducible refine x_dget ?_) | (with_reducible refine x_dput ?_)
  | (with_reducible refine x_bm ?_) | (with_reducible refine x_bm0 ?_) | (with_reducible refine x_pair ?_) | (with_reducible refine x_tri ?_) | (with_reducible refine x_int ?_) | (with_reducible refine x_intb ?_) | (with_reducible refine x_abs ?_) | (with_reducible refine x_isN ?_) | (with_reducible refine x_notN ?_) | (with_reducible refine x_meth ?_) | (with_reducible refine x_make ?_)
  | (with_reducible refine x_ite1 ?_) | (with_reducible refine x_ite0 ?_)
  | (with_reducible refine x_addi ?_) | (with_reducible refine x_neg ?_) | (with_reducible refine x_i0 ?_) | (with_reducible refine x_eqi ?_) | (with_reducible refine x_eqs ?_) | (with_reducible refine x_eqb ?_) | (with_reducible refine x_nei ?_) | (with_reducible refine x_lti ?_)
  | (with_reducible refine x_forL ?_) | (with_reducible refine x_forT ?_) | (with_reducible refine x_forR ?_) | (with_reducible refine x_forR2 ?_) | (with_reducible refine x_lcL ?_) | (with_reducible refine x_lcT ?_) | (with_reducible refine x_lcR ?_)
  | (with_reducible refine x_yes ?_) | (with_reducible refine x_pcons ?_) | (with_reducible refine x_pnil ?_) | (with_reducible refine x_gcons ?_) | (with_reducible refine x_gnil ?_) | (with_reducible refine x_gattr ?_) | (with_reducible refine x_raise ?_) | (with_reducible refine x_gsub ?_) | (with_reducible refine x_fldaug ?_) | (with_reducible refine x_radd ?_) | (with_reducible refine x_ipi ?_) | ((with_reducible refine x_aug (x := ?vv) ?hh ?qq); (case hh => exact rfl))
  | ((with_reducible refine x_iteA ?hc ?q); (case hc => exact rfl)) | ((with_reducible refine x_iteB ?hc ?q); (case hc => exact rfl))
  | ((with_reducible refine x_var (v := ?vv) ?hh ?qq); (case hh => exact rfl))
  | ((with_reducible refine r_isInt (d := ?dd) ?hh ?qq); (case hh => assumption)) | ((with_reducible refine r_isBool (d := ?dd) ?hh ?qq); (case hh => assumption)) | ((with_reducible refine r_isTup (d := ?dd) ?hh ?qq); (case hh => assumption))
  | ((with_reducible refine r_isStr (d := ?dd) ?hh ?qq); (case hh => assumption)) | ((with_reducible refine r_isLst (d := ?dd) ?hh ?qq); (case hh => assumption))))
local macro_rules | `(tactic| walk_at "y") => `(tactic| (repeat (walk_at "y1")))
structure Ers (P : Program) (K : PySem.W.Frag) (mg : Str → Option Value) where
  cD : Addr
  cP : Addr
  f1 : Addr
  c1 : Addr
  a1 : Addr
  f2 : Addr
  c2 : Addr
  a2 : Addr
  InvalidDisk : PySem.ErX.ErrTxt P K mg "InvalidDisk" cD f1 c1 a1
  InvalidPage : PySem.ErX.ErrTxt P K mg "InvalidPage" cP f2 c2 a2
section
variable {P : Program} {w : World} {K : PySem.W.Frag} {mg : Str → Option Value} {base : Heap}
/-- a raised error: its class, its number -/
def Errs (E : XK) (C : Addr) (n : Int) (H : Hp) : Prop := ∀ e H', Ex H H' → H' e = some (.xd [(("at" : Str), .int n)]) → E (.ref C) (some e) H'
def kErr (C : Addr) (W : WX) (σ : L2.St) (vs : List V) (H1 : Hp) : Prop := ∃ v, vs = [v] ∧ ∀ d, H1 d = none → W (.ref C) (some d) σ (upd H1 d (.xd [(("at" : Str), v)]))
theorem x_raise {C : Addr} {W : WX} {ta : TA} {D : Ends} {σ : L2.St} {H : Hp} (q : ta σ H fun vs H1 => kErr C W σ vs H1) : tRaiseErr C W ta D σ H := q
theorem x_kerr {C : Addr} {W : WX} {σ : L2.St} {v : V} {H : Hp} (q : ∀ e H', Ex H H' → H' e = some (.xd [(("at" : Str), v)]) → W (.ref C) (some e) σ H') : kErr C W σ [v] H := ⟨v, rfl, fun d hd => q d _ (Ex.new hd) upd_same⟩
/-! ### disks of slots, books -/
def entP (p : Nat × Entry) : Nat × PyData := (p.1, entD p.2)
def DskAt (K : PySem.W.Frag) (C a : Addr) (S F : List Slot) (U : List (Nat × Entry)) (H : Hp) : Prop := DiskAt K C a (S.map slD) (F.map slD) (U.map entP) H
structure DskOk (S F : List Slot) (U : List (Nat × Entry)) (M : Nat) : Prop where
  s : ∀ s ∈ S, SlotOk s
  f : ∀ s ∈ F, SlotOk s
  u : ∀ p ∈ U, EntOk p.2 ∧ p.1 < 2 * M
  ls : S.length = 2 * M
  lf : F.length = 2 * M
  m1 : 2 ≤ M
  m2 : M ≤ 32
  lu : U.length ≤ 200
theorem dok_of {S F : List Slot} {U : List (Nat × Entry)} {M : Nat} (hs : ∀ s ∈ S, SlotOk s) (hf : ∀ s ∈ F, SlotOk s) (hu : ∀ p ∈ U, EntOk p.2 ∧ p.1 < 2 * M) (lf : F.length = 2 * M) : DOk (S.map slD) (F.map slD) (U.map entP) := by
  refine ⟨fun d hd => ?_, fun d hd => ?_, fun p hp => ?_⟩
  · obtain ⟨s, h, rfl⟩ := List.mem_map.mp hd
    exact (lay_slot (hs s h)).to
  · obtain ⟨s, h, rfl⟩ := List.mem_map.mp hd
    exact (lay_slot (hf s h)).to
  · obtain ⟨q, hq, rfl⟩ := List.mem_map.mp hp
    exact ⟨(lay_ent (hu q hq).1).to, by rw [List.length_map, lf]; exact (hu q hq).2⟩
theorem DskOk.d {S F : List Slot} {U : List (Nat × Entry)} {M : Nat} (h : DskOk S F U M) : DOk (S.map slD) (F.map slD) (U.map entP) := dok_of h.s h.f h.u h.lf
theorem DskAt.go {S F : List Slot} {U : List (Nat × Entry)} {M : Nat} {L : List Addr} {C a : Addr} {H H' : Hp} (h : DskAt K C a S F U H) (o : DskOk S F U M) (g : Go L H H') (n : a ∉ L) : DskAt K C a S F U H' := DiskAt.go h o.d g n
structure BookC (K : PySem.W.Frag) (C : Addr) : Prop where
  ins : InsO K C
  a_disk : NoAttr K C "_disk"
  a_life : NoAttr K C "life"
  a_gen : NoAttr K C "generation"
  a_half : NoAttr K C "half"
  a_last : NoAttr K C "last"
  a_page : NoAttr K C "page"
structure Bk where
  life : Nat
  gen : Nat
  half : Nat
  last : Nat
  page : Page
abbrev bkF (d : Addr) (b : Bk) (v : V) : List (Str × V) := [("_disk", .ref d), ("life", .int (b.life : Int)), ("generation", .int (b.gen : Int)), ("half", .int (b.half : Int)), ("last", .int (b.last : Int)), ("page", v)]
def BookAt (K : PySem.W.Frag) (C a d : Addr) (b : Bk) (H : Hp) : Prop := ∃ dx v, H a = some (.ins C dx (bkF d b v)) ∧ Wt K H v (pageD b.page)
theorem BookAt.go {L : List Addr} {C a d : Addr} {b : Bk} {H H' : Hp} (h : BookAt K C a d b H) (o : PageOk b.page) (g : Go L H H') (n : a ∉ L) : BookAt K C a d b H' := by
  obtain ⟨dx, v, e, w⟩ := h
  exact ⟨dx, v, g.keep a _ n e, w.go g (lay_page o).to⟩
/-! ### put_entry -/
def spPutE (K : PySem.W.Frag) (CB CD : Addr) : Sp := fun vs H Q _ => ∃ a d y b S F U M p, vs = [.ref a, y] ∧ BookAt K CB a d b H ∧ DskAt K CD d S F U H ∧ DskOk S F U M ∧ PageOk b.page ∧ b.half ≤ 1 ∧ b.last < M ∧ Wt K H y (pageD p) ∧ PageOk p ∧
  ∀ H', Go [d] H H' → DskAt K CD d (S.set (b.half * M + b.last) (some ⟨b.gen, b.life, b.last, p⟩)) F (U ++ [(b.half * M + b.last, ⟨b.gen, b.life, b.last, p⟩)]) H' → Q .non H'
theorem place_lt {h M l : Nat} (h1 : h ≤ 1) (h2 : l < M) : h * M + l < 2 * M := by
  have : h * M ≤ 1 * M := Nat.mul_le_mul_right _ h1
  omega
abbrev s_Journal_put_entry : Stmt := inClass (top 25) 1
abbrev nms_Journal_put_entry : List Str := ["self", "thing", "slot"]
theorem sc_Journal_put_entry : FnScope nms_Journal_put_entry ["self", "thing"] (defScope s_Journal_put_entry) := ⟨rfl, rfl, rfl, by decide +kernel, rfl, by decide +kernel, by decide +kernel⟩
theorem ok_put_entry {f CB CD : Addr} {fd : FuncData} (B : BookC K CB) (D : DiskC K CD) (me : Meth K CB "put_entry" f) (F : Fun K "put_entry" "Journal.put_entry" s_Journal_put_entry f fd) (b : Binds K fd ["self", "thing"] []) (T : Bt mg) (m_Disk_put : Met P w K mg base 2 CD "put" (spPut K CD)) : Met P w K mg base 3 CB "put_entry" (spPutE K CB CD) := by
  refine met_of B.ins.cl me F b sc_Journal_put_entry (fun vs H Q E h => ?_) (fun cdv A outer s H vs Q E hr h => ?_)
  · obtain ⟨a, d, y, b, S, F, U, M, p, rfl, _⟩ := h
    rfl
  · obtain ⟨a, d, y, b, S, F, U, M, p, rfl, ⟨dx, v, ea, wv⟩, hd, od, op, h1, h2, wy, hp, q⟩ := h
    have hu64 := pass_hu64 hr
    refine ⟨_, (pss_cons (ps_set (i := 2) sc_Journal_put_entry.nd rfl (by first | exact Or.inl rfl | exact Or.inr rfl) (pe_op (oAddK K) (pe_op oMul (pe_fld (pv 0) rfl) (pe_op op_fdivN (pe_callB cLen (by rfl) T.len (by decide +kernel) (pa_cons (pe_fld (pe_fld (pv 0) rfl) rfl) pa_nil)) pe_int)) (pe_fld (pv 0) rfl)))
    (pss_one (ps_expr (pe_mtX m_Disk_put hr (by decide) passL (pe_fld (pv 0) rfl) (pa_cons (pv 2) (pa_cons (pe_tup (pa_cons (pe_fld (pv 0) rfl) (pa_cons (pe_fld (pv 0) rfl) (pa_cons (pe_fld (pv 0) rfl) (pa_cons (pv 1) pa_nil))))) pa_nil)))))), ?_⟩
    try dsimp only [cxOf]
    have hd0 := hd
    obtain ⟨dx2, v1, v2, v3, ed, w1, w2, w3⟩ := hd
    have m1 := od.m1
    have m2 := od.m2
    walk_at "y"
    refine x_kfld ea B.ins.cl B.a_half rfl ?_
    walk_at "y"
    refine x_kfld ea B.ins.cl B.a_disk rfl ?_
    refine x_kfld ed D.ins.cl D.a_slots rfl ?_
    walk_at "y"
    refine x_lend w1 ?_
    walk_at "y"
    refine x_iC (cdiv2 _) ?_
    rw [List.length_map, od.ls, fdiv2, show 2 * M / 2 = M by omega]
    refine x_muli (cmulR _ (by omega)) ?_
    walk_at "y"
    refine x_kfld ea B.ins.cl B.a_last rfl ?_
    walk_at "y"
    rw [show ((b.half : Int) * (M : Int) + (b.last : Int)) = ((b.half * M + b.last : Nat) : Int) from by push_cast; rfl]
    refine x_kfld ea B.ins.cl B.a_disk rfl ?_
    refine x_kmeth ed rfl ?_
    walk_at "y"
    refine x_kfld ea B.ins.cl B.a_gen rfl ?_
    walk_at "y"
    refine x_kfld ea B.ins.cl B.a_life rfl ?_
    walk_at "y"
    refine x_kfld ea B.ins.cl B.a_last rfl ?_
    walk_at "y"
    refine x_mkt (.cons (.int _) (.cons (.int _) (.cons (.int _) (.cons wy .nil)))) fun u H1 e1 w1 => ?_
    walk_at "y"
    refine ⟨d, b.half * M + b.last, u, entD ⟨b.gen, b.life, b.last, p⟩, S.map slD, F.map slD, U.map entP, rfl, DskAt.go hd0 od e1.go (L := []) (by simp), od.d, ?_, w1, (lay_ent (e := ⟨_, _, _, p⟩) hp).to, ?_, ?_, fun H' g h => ?_⟩
    · rw [List.length_map, od.ls]; exact place_lt h1 h2
    · rw [List.length_map, od.ls]; omega
    · rw [List.length_map]; have := od.lu; omega
    · refine q H' (e1.go.trans g) ?_
      unfold DskAt
      rw [List.map_set, List.map_append]
      exact h
end
end Y
/-! part B9 -/
/-! The journal: add_row. -/
namespace Y
open PySem L2
local macro_rules | `(tactic| walk_at "y1") => `(tactic| (first
  | (with_reducible refine x_seq ?_) | (with_reducible refine x_asg ?_) | (with_reducible refine x_name ?_) | (with_reducible refine x_drop ?_) | (with_reducible refine x_ret ?_) | (with_reducible refine x_retN ?_)
  | (with_reducible refine x_next ?_) | (with_reducible refine x_brk ?_) | (with_reducible refine x_ifS ?_)
  | (with_reducible refine x_c ?_) | (with_reducible refine x_op ?_) | (with_reducible refine x_un ?_) | (with_reducible refine x_cb ?_) | (with_reducible refine x_cons ?_) | (with_reducible refine x_nil ?_)
  | (with_reducible refine x_call ?_) | (with_reducible refine x_tup ?_) | (with_reducible refine x_lst ?_) | (with_reducible refine x_sl ?_) | (with_reducible refine x_nopart ?_) | (with_reducible refine x_part ?_)
  | (with_reducible refine x_andV ?_) | (with_reducible refine x_orV ?_) | (with_reducible refine x_notV ?_) | (with_reducible refine x_if ?_) | (with_reducible refine x_test ?_) | (with_reducible refine x_tb ?_)
  | (with_reducible refine x_and ?_) | (with_reducible refine x_or ?_) | (with_reducible refine x_not ?_) | (with_reducible refine x_chain ?_) | (with_reducible refine x_exbl ?_) | (with_reducible refine x_exint ?_)
  | (with_reducible refine x_fld ?_) | (with_reducible refine x_sfld ?_) | (with_reducible refine x_par ?_) | (with_reducible refine x_par3 ?_) | (with_reducible refine x_dget ?_) | (with_reducible refine x_dput ?_)
  | (with_reducible refine x_bm ?_) | (with_reducible refine x_bm0 ?_) | (with_reducible refine x_pair ?_) | (with_reducible refine x_tri ?_) | (with_reducible refine x_int ?_) | (with_reducible refine x_intb ?_) | (with_reducible refine x_abs ?_) | (with_reducible refine x_isN ?_) | (with_reducible refine x_notN ?_) | (with_reducible refine x_meth ?_) | (with_reducible refine x_make ?_)
  | (with_reducible refine x_ite1 ?_) | (with_reducible refine x_ite0 ?_)
  | (with_reducible refine x_addi ?_) | (with_reducible refine x_neg ?_) | (with_reducible refine x_i0 ?_) | (with_reducible refine x_eqi ?_) | (with_reducible refine x_eqs ?_) | (with_reducible refine x_eqb ?_) | (with_reducible refine x_nei ?_) | (with_reducible refine x_lti ?_)
  | (with_reducible refine x_forL ?_) | (with_reducible refine x_forT ?_) | (with_reducible refine x_forR ?_) | (with_reducible refine x_forR2 ?_) | (with_reducible refine x_lcL ?_) | (with_reducible refine x_lcT ?_) | (with_reducible refine x_lcR ?_)
  | (with_reducible refine x_yes ?_) | (with_reducible refine x_pcons ?_) | (with_reducible refine x_pnil ?_) | (with_reducible refine x_gcons ?_) | (with_reducible refine x_gnil ?_) | (with_reducible refine x_gattr ?_) | (with_reducible refine x_raise ?_) | (with_reducible refine x_gsub ?_) | (with_reducible refine x_fldaug ?_) | (with_reducible refine x_radd ?_) | (with_reducible refine x_ipi ?_) | ((with_reducible refine x_aug (x := ?vv) ?hh ?qq); (case hh => exact rfl))
  | ((with_reducible refine x_iteA ?hc ?q); (case hc => exact rfl)) | ((with_reducible refine x_iteB ?hc ?q); (case hc => exact rfl))
  | ((with_reducible refine x_var (v := ?vv) ?hh ?qq); (case hh => exact rfl))
  | ((with_reducible refine r_isInt (d := ?dd) ?hh ?qq); (case hh => assumption)) | ((with_reducible refine r_isBool (d := ?dd) ?hh ?qq); (case hh => assumption)) | ((with_reducible refine r_isTup (d := ?dd) ?hh ?qq); (case hh => assumption))
  | ((with_reducible refine r_isStr (d := ?dd) ?hh ?qq); (case hh => assumption)) | ((with_reducible refine r_isLst (d := ?dd) ?hh ?qq); (case hh => assumption))))
local macro_rules | `(tactic| walk_at "y") => `(tactic| (repeat (walk_at "y1")))
section
variable {P : Program} {w : World} {K : PySem.W.Frag} {mg : Str → Option Value} {base : Heap}
def addB (M : Nat) (b : Bk) (p : Page) : Bk := if b.last + 1 < M then ⟨b.life, b.gen, b.half, b.last + 1, over b.page p⟩ else ⟨b.life, b.gen + 1, 1 - b.half, 0, over b.page p⟩
def addE (M : Nat) (b : Bk) (p : Page) : Entry := if b.last + 1 < M then ⟨b.gen, b.life, b.last + 1, p⟩ else ⟨b.gen + 1, b.life, 0, over b.page p⟩
def addN (M : Nat) (b : Bk) : Nat := if b.last + 1 < M then b.half * M + (b.last + 1) else (1 - b.half) * M + 0
def spAdd (P : Program) (K : PySem.W.Frag) (mg : Str → Option Value) (ER : Ers P K mg) (CB CD : Addr) : Sp := fun vs H Q E => ∃ a d y b S F U M dat, vs = [.ref a, y] ∧ BookAt K CB a d b H ∧ DskAt K CD d S F U H ∧ DskOk S F U M ∧ PageOk b.page ∧ b.half ≤ 1 ∧ b.last < M ∧ Wt K H y dat ∧ PageSide dat ∧ a ≠ d ∧
  ((isPage dat = false ∧ Errs E ER.cP (-1) H) ∨ ∃ p, dat = pageD p ∧ PageOk p ∧ ∀ H', Go [a, d] H H' → BookAt K CB a d (addB M b p) H' →
    DskAt K CD d (S.set (addN M b) (some (addE M b p))) (if b.last + 1 < M then F else S) (if b.last + 1 < M then U ++ [(addN M b, addE M b p)] else [(addN M b, addE M b p)]) H' → Q .non H')
abbrev s_Journal_add_row : Stmt := inClass (top 25) 2
abbrev nms_Journal_add_row : List Str := ["self", "row"]
theorem sc_Journal_add_row : FnScope nms_Journal_add_row ["self", "row"] (defScope s_Journal_add_row) := ⟨rfl, rfl, rfl, by decide +kernel, rfl, by decide +kernel, by decide +kernel⟩
theorem ok_add_row {f CB CD : Addr} {fd : FuncData} (ER : Ers P K mg) (B : BookC K CB) (D : DiskC K CD) (me : Meth K CB "add_row" f) (F : Fun K "add_row" "Journal.add_row" s_Journal_add_row f fd) (b : Binds K fd ["self", "row"] []) (T : Bt mg) (c_is_page : Cal P w K mg base 3 "is_page" (spPage K)) (c_laid_over : Cal P w K mg base 1 "laid_over" (spOver K))
    (m_Journal_put_entry : Met P w K mg base 3 CB "put_entry" (spPutE K CB CD)) (m_Disk_flush : Met P w K mg base 1 CD "flush" (spFlush K CD)) : Met P w K mg base 4 CB "add_row" (spAdd P K mg ER CB CD) := by
  refine met_of B.ins.cl me F b sc_Journal_add_row (fun vs H Q E h => ?_) (fun cdv A outer s H vs Q E hr h => ?_)
  · obtain ⟨a, d, y, b, S, F, U, M, p, rfl, _⟩ := h
    rfl
  · obtain ⟨a, d, y, b, S, F, U, M, dat, rfl, hb, hd, od, op, h1, h2, wy, sd, nad, q⟩ := h
    have hu64 := pass_hu64 hr
    refine ⟨_, (pss_cons (ps_if (pt_not (pt_val (pe_c c_is_page hr (by decide) (by rfl) (pa_cons (pv 1) pa_nil))))
    (pss_one (ps_raiseErr rfl ER.InvalidPage hr (takes_of rfl rfl rfl rfl) (pa_cons (pe_un un_neg pe_int) pa_nil)))
    pss_nil)
    (pss_cons (ps_fld (pv 0) (pe_c c_laid_over hr (by decide) (by rfl) (pa_cons (pe_fld (pv 0) rfl) (pa_cons (pv 1) pa_nil))) rfl)
    (pss_one (ps_if (pt_cmpR (oLtK K hu64) (pe_op (oAddK K) (pe_fld (pv 0) rfl) pe_int) (pe_op op_fdivN (pe_callB cLen (by rfl) T.len (by decide +kernel) (pa_cons (pe_fld (pe_fld (pv 0) rfl) rfl) pa_nil)) pe_int) (nomark _))
    (pss_cons (ps_fldaug (pv 0) pe_int in_add)
    (pss_one (ps_expr (pe_mtX m_Journal_put_entry hr (by decide) passL (pv 0) (pa_cons (pv 1) pa_nil)))))
    (pss_cons (ps_expr (pe_mt0X m_Disk_flush hr (by decide) passL (pe_fld (pv 0) rfl)))
    (pss_cons (ps_fldaug (pv 0) pe_int in_add)
    (pss_cons (ps_fld (pv 0) (pe_op op_sub pe_int (pe_fld (pv 0) rfl)) rfl)
    (pss_cons (ps_fld (pv 0) pe_int rfl)
    (pss_one (ps_expr (pe_mtX m_Journal_put_entry hr (by decide) passL (pv 0) (pa_cons (pe_fld (pv 0) rfl) pa_nil)))))))))))), ?_⟩
    try dsimp only [cxOf]
    have m1 := od.m1
    have m2 := od.m2
    walk_at "y"
    refine ⟨y, dat, rfl, wy, sd, fun H1 e1 => ?_⟩
    rcases q with ⟨hp, q⟩ | ⟨p, rfl, hp, q⟩
    · rw [hp]
      walk_at "y"
      refine x_kerr fun e H2 e2 h2 => ?_
      exact q e H2 (e1.trans e2) h2
    · rw [isPage_ok hp]
      obtain ⟨dx, v, ea, wv⟩ := hb.go op e1.go (L := []) (by simp)
      have hd1 := hd.go od e1.go (L := []) (by simp)
      have wy1 := wy.ex e1
      walk_at "y"
      refine x_kfld ea B.ins.cl B.a_page rfl ?_
      walk_at "y"
      refine ⟨v, y, b.page, p, rfl, wv, wy1, op, hp, fun v2 H2 e2 w2 => ?_⟩
      walk_at "y"
      refine x_ksfld (e2 _ _ ea) B.ins.cl B.a_page (by simp) rfl fun H3 g3 h3 => ?_
      replace h3 : H3 a = some (.ins CB dx [("_disk", .ref d), ("life", .int (b.life : Int)), ("generation", .int (b.gen : Int)), ("half", .int (b.half : Int)), ("last", .int (b.last : Int)), ("page", v2)]) := h3
      have opo : PageOk (over b.page p) := op.over hp
      have w3 : Wt K H3 v2 (pageD (over b.page p)) := w2.go g3 (lay_page opo).to
      have hd3 := hd1.go od (e2.go.trans g3) (by simp [Ne.symm nad])
      have wy3 : Wt K H3 y (pageD p) := (wy1.ex e2).go g3 (lay_page hp).to
      have hd3' := hd3
      obtain ⟨dx2, v1, v2', v3, ed, wd1, wd2, wd3⟩ := hd3'
      walk_at "y"
      refine x_kfld h3 B.ins.cl B.a_last rfl ?_
      walk_at "y"
      refine x_kfld h3 B.ins.cl B.a_disk rfl ?_
      refine x_kfld ed D.ins.cl D.a_slots rfl ?_
      walk_at "y"
      refine x_lend wd1 ?_
      walk_at "y"
      refine x_iC (cdiv2 _) ?_
      rw [List.length_map, od.ls, fdiv2, show 2 * M / 2 = M by omega]
      walk_at "y"
      by_cases c : b.last + 1 < M
      · rw [show decide ((b.last : Int) + 1 < M) = true from decide_eq_true (by omega)]
        unfold addB addE addN at q
        simp only [if_pos c] at q
        walk_at "y"
        refine x_kfldaug h3 B.ins.cl B.a_last rfl ?_
        walk_at "y"
        refine x_kfin h3 (by simp) rfl fun H4 g4 h4 => ?_
        replace h4 : H4 a = some (.ins CB dx (bkF d ⟨b.life, b.gen, b.half, b.last + 1, over b.page p⟩ v2)) := h4
        have w4 : Wt K H4 v2 (pageD (over b.page p)) := w3.go g4 (lay_page opo).to
        have hd4 := hd3.go od g4 (by simp [Ne.symm nad])
        have hb4 : BookAt K CB a d ⟨b.life, b.gen, b.half, b.last + 1, over b.page p⟩ H4 := ⟨dx, v2, h4, w4⟩
        walk_at "y"
        refine x_kmeth h4 rfl ?_
        walk_at "y"
        refine ⟨a, d, y, _, S, F, U, M, p, rfl, hb4, hd4, od, opo, h1, c, wy3.go g4 (lay_page hp).to, hp, fun H5 g5 h5 => ?_⟩
        walk_at "y"
        refine q H5 ((e1.go.trans (e2.go.trans (g3.trans g4))).mono (by simp) |>.trans (g5.mono (by simp))) (hb4.go opo g5 (by simp [nad])) h5
      · rw [show decide ((b.last : Int) + 1 < M) = false from decide_eq_false (by omega)]
        unfold addB addE addN at q
        simp only [if_neg c] at q
        walk_at "y"
        refine x_kfld h3 B.ins.cl B.a_disk rfl ?_
        refine x_kmeth ed rfl ?_
        walk_at "y"
        refine ⟨d, _, _, _, rfl, hd3, od.d, fun H4 g4 h4 => ?_⟩
        have h34 := g4.keep a _ (by simp [nad]) h3
        walk_at "y"
        refine x_kfldaug h34 B.ins.cl B.a_gen rfl ?_
        walk_at "y"
        refine x_kfin h34 (by simp) rfl fun H5 g5 h5 => ?_
        replace h5 : H5 a = some (.ins CB dx [("_disk", .ref d), ("life", .int (b.life : Int)), ("generation", .int ((b.gen : Int) + 1)), ("half", .int (b.half : Int)), ("last", .int (b.last : Int)), ("page", v2)]) := h5
        walk_at "y"
        refine x_kfld h5 B.ins.cl B.a_half rfl ?_
        walk_at "y"
        refine x_ksfld h5 B.ins.cl B.a_half (by simp) rfl fun H6 g6 h6 => ?_
        replace h6 : H6 a = some (.ins CB dx [("_disk", .ref d), ("life", .int (b.life : Int)), ("generation", .int ((b.gen : Int) + 1)), ("half", .int (1 - (b.half : Int))), ("last", .int (b.last : Int)), ("page", v2)]) := h6
        walk_at "y"
        refine x_ksfld h6 B.ins.cl B.a_last (by simp) rfl fun H7 g7 h7 => ?_
        have eh : (1 - (b.half : Int)) = ((1 - b.half : Nat) : Int) := by omega
        have eg : ((b.gen : Int) + 1) = ((b.gen + 1 : Nat) : Int) := by omega
        replace h7 : H7 a = some (.ins CB dx [("_disk", .ref d), ("life", .int (b.life : Int)), ("generation", .int ((b.gen : Int) + 1)), ("half", .int (1 - (b.half : Int))), ("last", .int 0), ("page", v2)]) := h7
        rw [eh, eg] at h7
        have g47 := (g5.trans g6).trans g7
        have w7 : Wt K H7 v2 (pageD (over b.page p)) := (w3.go g4 (lay_page opo).to).go g47 (lay_page opo).to
        have h7' : H7 a = some (.ins CB dx (bkF d ⟨b.life, b.gen + 1, 1 - b.half, 0, over b.page p⟩ v2)) := h7
        have od4 : DskOk S S [] M := ⟨od.s, od.s, by simp, od.ls, od.ls, od.m1, od.m2, by simp⟩
        have hd7 : DskAt K CD d S S [] H7 := DskAt.go (M := M) (U := []) h4 od4 g47 (by simp [Ne.symm nad])
        have hb7 : BookAt K CB a d ⟨b.life, b.gen + 1, 1 - b.half, 0, over b.page p⟩ H7 := ⟨dx, v2, h7', w7⟩
        walk_at "y"
        refine x_kmeth h7 rfl ?_
        walk_at "y"
        refine x_kfld h7 B.ins.cl B.a_page rfl ?_
        walk_at "y"
        refine ⟨a, d, v2, _, S, S, [], M, over b.page p, rfl, hb7, hd7, od4, opo, by show 1 - b.half ≤ 1; omega, by show 0 < M; omega, w7, opo, fun H8 g8 h8 => ?_⟩
        walk_at "y"
        refine q H8 ((e1.go.trans (e2.go.trans (g3.mono (by simp)))).trans ((g4.mono (by simp)).trans ((g47.mono (by simp)).trans (g8.mono (by simp))))) (hb7.go opo g8 (by simp [nad])) h8
end
end Y
/-! part B10 -/
/-! The journal: opening. -/
namespace Y
open PySem L2
local macro_rules | `(tactic| walk_at "y1") => `(tactic| (first
  | (with_reducible refine x_seq ?_) | (with_reducible refine x_asg ?_) | (with_reducible refine x_name ?_) | (with_reducible refine x_drop ?_) | (with_reducible refine x_ret ?_) | (with_reducible refine x_retN ?_)
  | (with_reducible refine x_next ?_) | (with_reducible refine x_brk ?_) | (with_reducible refine x_ifS ?_)
  | (with_reducible refine x_c ?_) | (with_reducible refine x_op ?_) | (with_reducible refine x_un ?_) | (with_reducible refine x_cb ?_) | (with_reducible refine x_cons ?_) | (with_reducible refine x_nil ?_)
  | (with_reducible refine x_call ?_) | (with_reducible refine x_tup ?_) | (with_reducible refine x_lst ?_) | (with_reducible refine x_sl ?_) | (with_reducible refine x_nopart ?_) | (with_reducible refine x_part ?_)
  | (with_reducible refine x_andV ?_) | (with_reducible refine x_orV ?_) | (with_reducible refine x_notV ?_) | (with_reducible refine x_if ?_) | (with_reducible refine x_test ?_) | (with_reducible refine x_tb ?_)
  | (with_reducible refine x_and ?_) | (with_reducible refine x_or ?_) | (with_reducible refine x_not ?_) | (with_reducible refine x_chain ?_) | (with_reducible refine x_exbl ?_) | (with_reducible refine x_exint ?_)
  | (with_reducible refine x_fld ?_) | (with_reducible refine x_sfld ?_) | (with_reducible refine x_par ?_) | (with_reducible refine x_par3 ?_) | (with_reducible refine x_dget ?_) | (with_reducible refine x_dput ?_)
  | (with_reducible refine x_bm ?_) | (with_reducible refine x_bm0 ?_) | (with_reducible refine x_pair ?_) | (with_reducible refine x_tri ?_) | (with_reducible refine x_int ?_) | (with_reducible refine x_intb ?_) | (with_reducible refine x_abs ?_) | (with_reducible refine x_isN ?_) | (with_reducible refine x_notN ?_) | (with_reducible refine x_meth ?_) | (with_reducible refine x_make ?_)
  | (with_reducible refine x_ite1 ?_) | (with_reducible refine x_ite0 ?_)
  | (with_reducible refine x_addi ?_) | (with_reducible refine x_neg ?_) | (with_reducible refine x_i0 ?_) | (with_reducible refine x_eqi ?_) | (with_reducible refine x_eqs ?_) | (with_reducible refine x_eqb ?_) | (with_reducible refine x_nei ?_) | (with_reducible refine x_lti ?_)
  | (with_reducible refine x_forL ?_) | (with_reducible refine x_forT ?_) | (with_reducible refine x_forR ?_) | (with_reducible refine x_forR2 ?_) | (with_reducible refine x_lcL ?_) | (with_reducible refine x_lcT ?_) | (with_reducible refine x_lcR ?_)
  | (with_reducible refine x_yes ?_) | (with_reducible refine x_pcons ?_) | (with_reducible refine x_pnil ?_) | (with_reducible refine x_gcons ?_) | (with_reducible refine x_gnil ?_) | (with_reducible refine x_gattr ?_) | (with_reducible refine x_raise ?_) | (with_reducible refine x_gsub ?_) | (with_reducible refine x_fldaug ?_) | (with_reducible refine x_radd ?_) | (with_reducible refine x_ipi ?_) | ((with_reducible refine x_aug (x := ?vv) ?hh ?qq); (case hh => exact rfl))
  | ((with_reducible refine x_iteA ?hc ?q); (case hc => exact rfl)) | ((with_reducible refine x_iteB ?hc ?q); (case hc => exact rfl))
  | ((with_reducible refine x_var (v := ?vv) ?hh ?qq); (case hh => exact rfl))
  | ((with_reducible refine r_isInt (d := ?dd) ?hh ?qq); (case hh => assumption)) | ((with_reducible refine r_isBool (d := ?dd) ?hh ?qq); (case hh => assumption)) | ((with_reducible refine r_isTup (d := ?dd) ?hh ?qq); (case hh => assumption))
  | ((with_reducible refine r_isStr (d := ?dd) ?hh ?qq); (case hh => assumption)) | ((with_reducible refine r_isLst (d := ?dd) ?hh ?qq); (case hh => assumption))))
local macro_rules | `(tactic| walk_at "y") => `(tactic| (repeat (walk_at "y1")))
/-! ### the greatest life -/
def livesN (S : List Slot) : List Nat := S.filterMap fun s => s.map (·.l)
def lifeOf (S : List Slot) : Nat := (livesN S).foldr max 0
theorem foldr_max : ∀ (l : List Nat), (∀ x ∈ l, x ≤ l.foldr max 0) ∧ (l.foldr max 0 ∈ (0 :: l))
  | [] => ⟨by simp, by simp⟩
  | a :: l => by
    obtain ⟨h1, h2⟩ := foldr_max l
    refine ⟨fun x hx => ?_, ?_⟩
    · show x ≤ max a (l.foldr max 0)
      rcases List.mem_cons.mp hx with rfl | hx
      · exact Nat.le_max_left _ _
      · exact Nat.le_trans (h1 x hx) (Nat.le_max_right _ _)
    · show max a (l.foldr max 0) ∈ _
      rcases Nat.le_total a (l.foldr max 0) with h | h
      · rw [Nat.max_eq_right h]
        rcases List.mem_cons.mp h2 with z | z
        · rw [z]; simp
        · exact List.mem_cons_of_mem _ (List.mem_cons_of_mem _ z)
      · rw [Nat.max_eq_left h]; simp
theorem life_le {S : List Slot} {e : Entry} (h : some e ∈ S) : e.l ≤ lifeOf S :=
  (foldr_max (livesN S)).1 _ (List.mem_filterMap.mpr ⟨some e, h, rfl⟩)
theorem life_is {S : List Slot} {m : Int} (h1 : m ∈ ((0 : Int) :: (livesN S).map fun (n : Nat) => (n : Int))) (h2 : ∀ y ∈ ((0 : Int) :: (livesN S).map fun (n : Nat) => (n : Int)), y ≤ m) : m = (lifeOf S : Int) := by
  obtain ⟨a, b⟩ := foldr_max (livesN S)
  have h0 : (0 : Int) ≤ m := h2 0 (List.mem_cons_self ..)
  apply Int.le_antisymm
  · rcases List.mem_cons.mp h1 with rfl | h1
    · omega
    · obtain ⟨n, hn, rfl⟩ := List.mem_map.mp h1
      have := a n hn
      unfold lifeOf
      omega
  · rcases List.mem_cons.mp b with z | z
    · unfold lifeOf; rw [z]; exact h0
    · exact h2 _ (List.mem_cons_of_mem _ (List.mem_map.mpr ⟨_, z, rfl⟩))
theorem lives_snoc {S : List Slot} {i : Nat} {s : Slot} (h : S[i]? = some s) : livesN (S.take (i + 1)) = livesN (S.take i) ++ (match s with
  | none => []
  | some e => [e.l]) := by
  rw [take_snoc h]
  unfold livesN
  rw [List.filterMap_append]
  cases s <;> rfl
theorem lives_len : ∀ S : List Slot, (livesN S).length ≤ S.length := fun S => List.length_filterMap_le _ _
section
variable {P : Program} {w : World} {K : PySem.W.Frag} {mg : Str → Option Value} {base : Heap}
/-- what isinstance(x, Disk) is told -/
structure IsD (K : PySem.W.Frag) (CD CB : Addr) : Prop where
  dd : PySem.W.kitOne K (.ref CD) (.ref CD) = some true
  bd : PySem.W.kitOne K (.ref CB) (.ref CD) = some false
  nd : PySem.W.kitOne K (.type "NoneType") (.ref CD) = some false
  id : PySem.W.kitOne K (.type "int") (.ref CD) = some false
  td : PySem.W.kitOne K (.type "tuple") (.ref CD) = some false
def NotDisk (K : PySem.W.Frag) (CD CB : Addr) (H : Hp) (x : V) : Prop := x = .non ∨ (∃ i, x = .int i) ∨ (∃ a xs, x = .ref a ∧ H a = some (.tup xs)) ∨ ∃ a dx fs, x = .ref a ∧ H a = some (.ins CB dx fs)
theorem x_notDisk {CD CB : Addr} {H : Hp} {x : V} {Q : VK} (I : IsD K CD CB) (B : InsO K CB) (h : NotDisk K CD CB H x) (q : Q (.bl false) H) : rIsi K [x, .ref CD] H Q := by
  rcases h with rfl | ⟨i, rfl⟩ | ⟨a, xs, rfl, e⟩ | ⟨a, dx, fs, rfl, e⟩
  · exact ⟨_, _, _, _, _, rfl, .own CD, .base .non, I.nd, q⟩
  · exact ⟨_, _, _, _, _, rfl, .own CD, .base (.int i), I.id, q⟩
  · exact ⟨_, _, _, _, _, rfl, .own CD, .base (.tup e), I.td, q⟩
  · exact ⟨_, _, _, _, _, rfl, .own CD, .base (.ins e B.cl B.ha B.hn B.htk B.hm), I.bd, q⟩
theorem x_isDisk {CD CB a dx : Addr} {fs : List (Str × V)} {H : Hp} {Q : VK} (I : IsD K CD CB) (D : InsO K CD) (e : H a = some (.ins CD dx fs)) (q : Q (.bl true) H) : rIsi K [.ref a, .ref CD] H Q :=
  ⟨_, _, _, _, _, rfl, .own CD, .base (.ins e D.cl D.ha D.hn D.htk D.hm), I.dd, q⟩
def openB (S : List Slot) (f : Option (Nat × Nat × Nat × Page)) (first : Page) : Bk := match f with
  | none => ⟨1 + lifeOf S, 1, 0, 0, first⟩
  | some (g, h, l, p) => ⟨1 + lifeOf S, g, h, l, p⟩
def spOpen (P : Program) (K : PySem.W.Frag) (mg : Str → Option Value) (ER : Ers P K mg) (CB CD : Addr) : Sp := fun vs H Q E => ∃ a y z dx, vs = [.ref a, y, z] ∧ H a = some (.ins CB dx []) ∧
  ((Errs E ER.cD (-1) H ∧ (NotDisk K CD CB H y ∨ ∃ d sl sf pu, y = .ref d ∧ DiskAt K CD d sl sf pu H ∧ SizeOk sl.length ∧ (∀ x ∈ sl, SlotSide x) ∧ sl.all slotFine = false)) ∨
   ∃ d S F U M, y = .ref d ∧ DskAt K CD d S F U H ∧ DskOk S F U M ∧ a ≠ d ∧
    ((∃ dat, Wt K H z dat ∧ PageSide dat ∧ isPage dat = false ∧ Errs E ER.cP 1 H) ∨
     ∃ first r0 r1, Wt K H z (pageD first) ∧ PageOk first ∧ RH S M 0 r0 ∧ RH S M M r1 ∧ ∀ H', Go [a, d] H H' → BookAt K CB a d (openB S (pickH r0 r1) first) H' →
       (match pickH r0 r1 with
        | none => DskAt K CD d (S.set 0 (some ⟨1, 1 + lifeOf S, 0, first⟩)) (S.set 0 (some ⟨1, 1 + lifeOf S, 0, first⟩)) [] H'
        | some _ => DskAt K CD d S F U H') → Q .non H'))
abbrev s_Journal___init__ : Stmt := inClass (top 25) 0
abbrev nms_Journal___init__ : List Str := ["self", "disk", "first", "found", "entry"]
theorem sc_Journal___init__ : FnScope nms_Journal___init__ ["self", "disk", "first"] (defScope s_Journal___init__) := ⟨rfl, rfl, rfl, by decide +kernel, rfl, by decide +kernel, by decide +kernel⟩
theorem mk_Journal {f CB CD : Addr} {fd : FuncData} (ER : Ers P K mg) (M0 : Mk K CB f) (B : BookC K CB) (D : DiskC K CD) (I : IsD K CD CB) (F : Fun K "__init__" "Journal.__init__" s_Journal___init__ f fd) (hm : mg "Journal" = some (.ref CB)) (hmD : mg "Disk" = some (.ref CD)) (b : Binds K fd ["self", "disk", "first"] []) (T : Bt mg)
    (c_are_slots : Cal P w K mg base 5 "are_slots" (spSlots K)) (c_is_page : Cal P w K mg base 3 "is_page" (spPage K)) (c_read_back : Cal P w K mg base 6 "read_back" (spRead K))
    (m_Journal_put_entry : Met P w K mg base 3 CB "put_entry" (spPutE K CB CD)) (m_Disk_flush : Met P w K mg base 1 CD "flush" (spFlush K CD)) : Mak P w K mg base 7 "Journal" CB (spOpen P K mg ER CB CD) := by
  refine mak_of M0 hm F b sc_Journal___init__ (fun vs H Q E h => ?_) (fun cdv A outer s H vs Q E hr h => ?_)
  · obtain ⟨a, y, z, dx, rfl, _⟩ := h
    rfl
  · obtain ⟨a, y, z, dx, rfl, ea, h⟩ := h
    have hu64 := pass_hu64 hr
    have g_Disk : ∃ u, mg "Disk" = some u ∧ RelV (.ref CD) u := ⟨_, hmD, rfl⟩
    refine ⟨_, (pss_cons (ps_if (PW.pt (pw_or (pt_not (pt_val (pe_callB call_isi (by rfl) T.isinstance (by decide +kernel) (pa_cons (pv 1) (pa_cons (pe_gc (by rfl) g_Disk) pa_nil))))) (pw_or1 (pt_not (pt_val (pe_c c_are_slots hr (by decide) (by rfl) (pa_cons (pe_fld (pv 1) rfl) pa_nil)))))))
    (pss_one (ps_raiseErr rfl ER.InvalidDisk hr (takes_of rfl rfl rfl rfl) (pa_cons (pe_un un_neg pe_int) pa_nil)))
    pss_nil)
    (pss_cons (ps_if (pt_not (pt_val (pe_c c_is_page hr (by decide) (by rfl) (pa_cons (pv 2) pa_nil))))
    (pss_one (ps_raiseErr rfl ER.InvalidPage hr (takes_of rfl rfl rfl rfl) (pa_cons pe_int pa_nil)))
    pss_nil)
    (pss_cons (ps_fld (pv 0) (pv 1) rfl)
    (pss_cons (ps_fld (pv 0) (pe_op (oAddK K) pe_int (pe_callB (cr_max rfl) (by rfl) T.max (by decide +kernel) (pa_cons (pe_op (oAddK K) (pe_lst (pa_cons pe_int pa_nil)) (pe_lc (own := [("entry", 4)]) rfl sc_Journal___init__.nd (pi_tup (pe_fld (pv 1) rfl)) (blkOk_by (N := nms_Journal___init__) (sc := defScope s_Journal___init__) (by decide +kernel)) (fun _ _ _ _ _ => (pg_name (i := 4) sc_Journal___init__.nd rfl (by first | exact Or.inl rfl | exact Or.inr rfl))) (fun _ _ _ _ _ => (pts_one (pt_cmpR (oNeK K hu64) (pv 4) (pe_tup pa_nil) (nomark _)))) (fun _ _ _ _ _ => (pe_ix (oIxK K) (pv 4) pe_int (fun _ _ => rfl))))) pa_nil))) rfl)
    (pss_cons (ps_set (i := 3) sc_Journal___init__.nd rfl (by first | exact Or.inl rfl | exact Or.inr rfl) (pe_c c_read_back hr (by decide) (by rfl) (pa_cons (pe_fld (pv 1) rfl) pa_nil)))
    (pss_one (ps_if (pt_cmpR op_isN1 (pv 3) pe_non (nomark _))
    (pss_cons (ps_asg (pe_tup (pa_cons pe_int (pa_cons pe_int (pa_cons pe_int (pa_cons (pv 2) pa_nil))))) (pg_tup (n := 4) rfl (pgs_cons (pg_attr (pv 0)) (pgs_cons (pg_attr (pv 0)) (pgs_cons (pg_attr (pv 0)) (pgs_cons (pg_attr (pv 0)) pgs_nil))))))
    (pss_cons (ps_expr (pe_mtX m_Journal_put_entry hr (by decide) passL (pv 0) (pa_cons (pv 2) pa_nil)))
    (pss_one (ps_expr (pe_mt0X m_Disk_flush hr (by decide) passL (pv 1))))))
    (pss_one (ps_asg (pv 3) (pg_tup (n := 4) rfl (pgs_cons (pg_attr (pv 0)) (pgs_cons (pg_attr (pv 0)) (pgs_cons (pg_attr (pv 0)) (pgs_cons (pg_attr (pv 0)) pgs_nil)))))))))))))), ?_⟩
    try dsimp only [cxOf]
    rcases h with ⟨hE, h⟩ | ⟨d, S, F, U, M, rfl, hd, od, nad, h⟩
    · rcases h with hnd | ⟨d, sl, sf, pu, rfl, hd, hs, sd, hf⟩
      · walk_at "y"
        refine x_notDisk I B.ins hnd ?_
        walk_at "y"
        exact x_kerr fun e H2 e2 h2 => hE e H2 e2 h2
      · obtain ⟨dx2, v1, v2, v3, ed, w1, w2, w3⟩ := hd
        walk_at "y"
        refine x_isDisk I D.ins ed ?_
        walk_at "y"
        refine x_kfld ed D.ins.cl D.a_slots rfl ?_
        walk_at "y"
        refine ⟨v1, sl, rfl, w1, hs, sd, fun H1 e1 => ?_⟩
        rw [hf]
        walk_at "y"
        exact x_kerr fun e H2 e2 h2 => hE e H2 (e1.trans e2) h2
    · have hd' := hd
      obtain ⟨dx2, v1, v2, v3, ed, w1, w2, w3⟩ := hd'
      have m1 := od.m1
      have m2 := od.m2
      walk_at "y"
      refine x_isDisk I D.ins ed ?_
      walk_at "y"
      refine x_kfld ed D.ins.cl D.a_slots rfl ?_
      walk_at "y"
      refine ⟨v1, _, rfl, w1, by rw [List.length_map, od.ls]; exact ⟨by omega, by omega, by omega⟩, fun x hx => ?_, fun H1 e1 => ?_⟩
      · obtain ⟨s, hs, rfl⟩ := List.mem_map.mp hx
        exact slotSide_ok (od.s s hs)
      rw [slots_fine od.s]
      walk_at "y"
      rcases h with ⟨dat, wz, sz, hz, hE⟩ | ⟨first, r0, r1, wz, hp, h0, h1, q⟩
      · refine ⟨z, dat, rfl, wz.ex e1, sz, fun H2 e2 => ?_⟩
        rw [hz]
        walk_at "y"
        exact x_kerr fun e H3 e3 h3 => hE e H3 (e1.trans (e2.trans e3)) h3
      · refine ⟨z, _, rfl, wz.ex e1, pageSide_ok hp, fun H2 e2 => ?_⟩
        rw [isPage_ok hp]
        have E2 := e1.trans e2
        walk_at "y"
        refine x_ksfld (E2 _ _ ea) B.ins.cl B.a_disk (by simp) rfl fun H3 g3 h3 => ?_
        replace h3 : H3 a = some (.ins CB dx [("_disk", .ref d)]) := h3
        have ed3 := g3.keep d _ (by simp [Ne.symm nad]) (E2 _ _ ed)
        have w13 : Wt K H3 v1 (.tuple (S.map slD)) := (w1.ex E2).go g3 (lay_slots od.s).to
        walk_at "y"
        refine x_mkl fun l4 H4 e4 n4 h4 => ?_
        walk_at "y"
        refine x_kfld (e4 _ _ ed3) D.ins.cl D.a_slots rfl ?_
        have w14 := w13.ex e4
        have w14' := w14
        cases w14' with
        | @tup a1 xs _ ea1 wa1 =>
        refine y_lcT [] (fun _ => True) (fun i ds => ds = (livesN (S.take i)).map fun (n : Nat) => PyData.int (n : Int)) ea1 (by rw [wa1.len, List.length_map, od.ls]; omega) (by simp) keeps_true trivial rfl (fun i x H5 ds hx g5 _ hds ok no hok hno => ?_) (fun E5 acc ds H5 nE g5 _ hE wd t hds => ?_)
        · refine turn_nameT rfl ?_
          obtain ⟨ed, hed, we⟩ := wa1.get hx
          rw [List.getElem?_map] at hed
          cases es : S[i]? with
          | none => rw [es] at hed; cases hed
          | some s0 =>
            rw [es] at hed
            cases hed
            have sok := od.s s0 (List.mem_of_getElem? es)
            have we := we.ex g5.ex
            walk_at "y"
            refine x_mkt (K := K) .nil fun u6 H6 e6 w6 => ?_
            refine x_ned (we.ex e6) w6 (lay_slot sok).shaped rfl ?_
            cases s0 with
            | none =>
              rw [show PyData.eqv (slD none) (.tuple []) = true from rfl]
              walk_at "y"
              refine hno H6 e6.go trivial ?_
              dsimp only
              rw [lives_snoc es, List.append_nil]
              exact hds
            | some e0 =>
              rw [show PyData.eqv (slD (some e0)) (.tuple []) = false from rfl]
              walk_at "y"
              refine x_ixd (n := 1) (d := .int (e0.l : Int)) (we.ex e6) rfl rfl fun u7 w7 => ?_
              refine hok u7 _ H6 e6.go trivial w7 rfl ?_
              dsimp only
              rw [lives_snoc es, hds, List.map_append]
              rfl
        · rw [wa1.len, List.length_map, List.take_length] at hds
          subst hds
          have hacc : acc = ((livesN S).map fun (n : Nat) => (n : Int)).map V.int := by
            refine ints_of (K := K) (H := H5) ?_
            rw [List.map_map]
            exact wd
          have h45 := g5.ex _ _ h4
          refine x_addl h45 hE (by rw [hacc]; simp only [List.length_map, List.length_cons, List.length_nil]; have := lives_len S; rw [od.ls] at this; omega) fun p6 H6 e6 n6 h6 => ?_
          rw [hacc, show [V.int 0] ++ ((livesN S).map fun (n : Nat) => (n : Int)).map V.int = ((0 : Int) :: (livesN S).map fun (n : Nat) => (n : Int)).map V.int from rfl] at h6
          walk_at "y"
          refine x_max h6 (by simp) fun m hm1 hm2 => ?_
          rw [life_is hm1 hm2]
          walk_at "y"
          have E36 : Ex H3 H6 := e4.trans (g5.ex.trans e6)
          rw [show ((1 : Int) + (lifeOf S : Int)) = ((1 + lifeOf S : Nat) : Int) from by omega]
          refine x_ksfld (E36 _ _ h3) B.ins.cl B.a_life (by simp) rfl fun H7 g7 h7 => ?_
          replace h7 : H7 a = some (.ins CB dx [("_disk", .ref d), ("life", .int ((1 + lifeOf S : Nat) : Int))]) := h7
          have ed7 := g7.keep d _ (by simp [Ne.symm nad]) (E36 _ _ ed3)
          have w17 := (w13.ex E36).go g7 (lay_slots od.s).to
          have G7 : Go [a] H H7 := E2.go.trans (g3.trans (E36.go.trans g7))
          have hd7 : DskAt K CD d S F U H7 := hd.go od G7 (by simp [Ne.symm nad])
          walk_at "y"
          refine x_kfld ed7 D.ins.cl D.a_slots rfl ?_
          walk_at "y"
          refine ⟨_, S, M, r0, r1, rfl, w17, od.ls, m1, m2, od.s, h0, h1, fun u8 H8 e8 w8 => ?_⟩
          have h87 := e8 _ _ h7
          have hd8 := hd7.go od e8.go (L := []) (by simp)
          cases hpk : pickH r0 r1 with
          | none =>
            rw [hpk] at w8 q
            have q : ∀ H', Go [a, d] H H' → BookAt K CB a d ⟨1 + lifeOf S, 1, 0, 0, first⟩ H' → DskAt K CD d (S.set 0 (some ⟨1, 1 + lifeOf S, 0, first⟩)) (S.set 0 (some ⟨1, 1 + lifeOf S, 0, first⟩)) [] H' → Q .non H' := q
            cases w8
            have wz8 : Wt K H8 z (pageD first) := (wz.go G7 (lay_page hp).to).ex e8
            walk_at "y"
            refine x_mkr fun p9 H9 e9 n9 h9 => ?_
            walk_at "y"
            refine x_gtup h9 rfl ?_
            walk_at "y"
            refine x_ksfld (e9 _ _ h87) B.ins.cl B.a_gen (by simp) rfl fun H10 g10 h10 => ?_
            replace h10 : H10 a = some (.ins CB dx [("_disk", .ref d), ("life", .int ((1 + lifeOf S : Nat) : Int)), ("generation", .int 1)]) := h10
            walk_at "y"
            refine x_ksfld h10 B.ins.cl B.a_half (by simp) rfl fun H11 g11 h11 => ?_
            replace h11 : H11 a = some (.ins CB dx [("_disk", .ref d), ("life", .int ((1 + lifeOf S : Nat) : Int)), ("generation", .int 1), ("half", .int 0)]) := h11
            walk_at "y"
            refine x_ksfld h11 B.ins.cl B.a_last (by simp) rfl fun H12 g12 h12 => ?_
            replace h12 : H12 a = some (.ins CB dx [("_disk", .ref d), ("life", .int ((1 + lifeOf S : Nat) : Int)), ("generation", .int 1), ("half", .int 0), ("last", .int 0)]) := h12
            walk_at "y"
            refine x_ksfld h12 B.ins.cl B.a_page (by simp) rfl fun H13 g13 h13 => ?_
            replace h13 : H13 a = some (.ins CB dx (bkF d ⟨1 + lifeOf S, 1, 0, 0, first⟩ z)) := h13
            have G13 : Go [a] H9 H13 := ((g10.trans g11).trans g12).trans g13
            have wz13 : Wt K H13 z (pageD first) := (wz8.ex e9).go G13 (lay_page hp).to
            have hb13 : BookAt K CB a d ⟨1 + lifeOf S, 1, 0, 0, first⟩ H13 := ⟨dx, z, h13, wz13⟩
            have hd13 := hd8.go od (e9.go.trans G13) (by simp [Ne.symm nad])
            walk_at "y"
            refine x_kmeth h13 rfl ?_
            walk_at "y"
            refine ⟨a, d, z, _, S, F, U, M, first, rfl, hb13, hd13, od, hp, Nat.zero_le _, by show 0 < M; omega, wz13, hp, fun H14 g14 h14 => ?_⟩
            have hb14 := hb13.go hp g14 (by simp [nad])
            rw [show (0 * M + 0) = 0 by omega] at h14
            have h14 : DskAt K CD d (S.set 0 (some ⟨1, 1 + lifeOf S, 0, first⟩)) F (U ++ [(0, ⟨1, 1 + lifeOf S, 0, first⟩)]) H14 := by
              have e : (0 : Nat) * M + 0 = 0 := by omega
              exact h14
            have h14' := h14
            obtain ⟨dx5, q1, q2, q3, ed14, _⟩ := h14'
            walk_at "y"
            refine x_kmeth ed14 rfl ?_
            have sset : ∀ s ∈ S.set 0 (some ⟨1, 1 + lifeOf S, 0, first⟩), SlotOk s := fun s hs => by
              rcases List.mem_or_eq_of_mem_set hs with z | z
              · exact od.s s z
              · rw [z]; intro e he; cases he; exact hp
            have od14 : DOk ((S.set 0 (some (⟨1, 1 + lifeOf S, 0, first⟩ : Entry))).map slD) (F.map slD) ((U ++ [((0 : Nat), (⟨1, 1 + lifeOf S, 0, first⟩ : Entry))]).map entP) := dok_of sset od.f (fun p hp' => by
              rcases List.mem_append.mp hp' with z | z
              · exact od.u p z
              · rw [List.mem_singleton.mp z]; exact ⟨hp, by show 0 < 2 * M; omega⟩) od.lf
            walk_at "y"
            refine ⟨d, _, _, _, rfl, h14, od14, fun H15 g15 h15 => ?_⟩
            walk_at "y"
            refine q H15 ((G7.mono (by simp)).trans ((e8.go.trans (e9.go.trans (G13.mono (by simp)))).trans ((g14.trans g15).mono (by simp)))) (hb14.go hp g15 (by simp [nad])) h15
          | some r =>
            obtain ⟨g, h, l, p⟩ := r
            rw [hpk] at w8 q
            have q : ∀ H', Go [a, d] H H' → BookAt K CB a d ⟨1 + lifeOf S, g, h, l, p⟩ H' → DskAt K CD d S F U H' → Q .non H' := q
            have w8' := w8
            cases w8' with
            | @tup a9 xs9 _ ea9 wa9 =>
            cases wa9 with
            | cons u0 wa9 =>
            cases wa9 with
            | cons u1 wa9 =>
            cases wa9 with
            | cons u2 wa9 =>
            cases wa9 with
            | @cons v3' _ _ _ u3 wa9 =>
            cases wa9
            cases u0
            cases u1
            cases u2
            walk_at "y"
            refine x_gtup ea9 rfl ?_
            walk_at "y"
            refine x_ksfld h87 B.ins.cl B.a_gen (by simp) rfl fun H10 g10 h10 => ?_
            replace h10 : H10 a = some (.ins CB dx [("_disk", .ref d), ("life", .int ((1 + lifeOf S : Nat) : Int)), ("generation", .int (g : Int))]) := h10
            walk_at "y"
            refine x_ksfld h10 B.ins.cl B.a_half (by simp) rfl fun H11 g11 h11 => ?_
            replace h11 : H11 a = some (.ins CB dx [("_disk", .ref d), ("life", .int ((1 + lifeOf S : Nat) : Int)), ("generation", .int (g : Int)), ("half", .int (h : Int))]) := h11
            walk_at "y"
            refine x_ksfld h11 B.ins.cl B.a_last (by simp) rfl fun H12 g12 h12 => ?_
            replace h12 : H12 a = some (.ins CB dx [("_disk", .ref d), ("life", .int ((1 + lifeOf S : Nat) : Int)), ("generation", .int (g : Int)), ("half", .int (h : Int)), ("last", .int (l : Int))]) := h12
            walk_at "y"
            refine x_ksfld h12 B.ins.cl B.a_page (by simp) rfl fun H13 g13 h13 => ?_
            replace h13 : H13 a = some (.ins CB dx (bkF d ⟨1 + lifeOf S, g, h, l, p⟩ v3')) := h13
            have G13 : Go [a] H8 H13 := ((g10.trans g11).trans g12).trans g13
            have pok : PageOk p := by
              unfold pickH at hpk
              split at hpk
              · cases hpk
              · cases hpk; cases h1 with
                | some rd => exact rd.page od.s
              · cases hpk; cases h0 with
                | some rd => exact rd.page od.s
              · split at hpk
                · cases hpk; cases h1 with
                  | some rd => exact rd.page od.s
                · cases hpk; cases h0 with
                  | some rd => exact rd.page od.s
            walk_at "y"
            exact q H13 ((G7.mono (by simp)).trans (e8.go.trans (G13.mono (by simp)))) ⟨dx, v3', h13, u3.go G13 (lay_page pok).to⟩ (hd8.go od G13 (by simp [Ne.symm nad]))
end
end Y
/-! part C0 -/
/-! The law's box. -/
namespace Y
open PySem L2
local macro_rules | `(tactic| walk_at "y1") => `(tactic| (first
  | (with_reducible refine x_seq ?_) | (with_reducible refine x_asg ?_) | (with_reducible refine x_name ?_) | (with_reducible refine x_drop ?_) | (with_reducible refine x_ret ?_) | (with_reducible refine x_retN ?_)
  | (with_reducible refine x_next ?_) | (with_reducible refine x_brk ?_) | (with_reducible refine x_ifS ?_)
  | (with_reducible refine x_c ?_) | (with_reducible refine x_op ?_) | (with_reducible refine x_un ?_) | (with_reducible refine x_cb ?_) | (with_reducible refine x_cons ?_) | (with_reducible refine x_nil ?_)
  | (with_reducible refine x_call ?_) | (with_reducible refine x_tup ?_) | (with_reducible refine x_lst ?_) | (with_reducible refine x_sl ?_) | (with_reducible refine x_nopart ?_) | (with_reducible refine x_part ?_)
  | (with_reducible refine x_andV ?_) | (with_reducible refine x_orV ?_) | (with_reducible refine x_notV ?_) | (with_reducible refine x_if ?_) | (with_reducible refine x_test ?_) | (with_reducible refine x_tb ?_)
  | (with_reducible refine x_and ?_) | (with_reducible refine x_or ?_) | (with_reducible refine x_not ?_) | (with_reducible refine x_chain ?_) | (with_reducible refine x_exbl ?_) | (with_reducible refine x_exint ?_)
  | (with_reducible refine x_fld ?_) | (with_reducible refine x_sfld ?_) | (with_reducible refine x_par ?_) | (with_reducible refine x_par3 ?_) | (with_reducible refine x_dget ?_) | (with_reducible refine x_dput ?_)
  | (with_reducible refine x_bm ?_) | (with_reducible refine x_bm0 ?_) | (with_reducible refine x_pair ?_) | (with_reducible refine x_tri ?_) | (with_reducible refine x_int ?_) | (with_reducible refine x_intb ?_) | (with_reducible refine x_abs ?_) | (with_reducible refine x_isN ?_) | (with_reducible refine x_notN ?_) | (with_reducible refine x_meth ?_) | (with_reducible refine x_make ?_)
  | (with_reducible refine x_ite1 ?_) | (with_reducible refine x_ite0 ?_)
  | (with_reducible refine x_addi ?_) | (with_reducible refine x_neg ?_) | (with_reducible refine x_i0 ?_) | (with_reducible refine x_eqi ?_) | (with_reducible refine x_eqs ?_) | (with_reducible refine x_eqb ?_) | (with_reducible refine x_nei ?_) | (with_reducible refine x_lti ?_)
  | (with_reducible refine x_forL ?_) | (with_reducible refine x_forT ?_) | (with_reducible refine x_forR ?_) | (with_reducible refine x_forR2 ?_) | (with_reducible refine x_lcL ?_) | (with_reducible refine x_lcT ?_) | (with_reducible refine x_lcR ?_)
  | (with_reducible refine x_yes ?_) | (with_reducible refine x_pcons ?_) | (with_reducible refine x_pnil ?_) | (with_reducible refine x_gcons ?_) | (with_reducible refine x_gnil ?_) | (with_reducible refine x_gattr ?_) | (with_reducible refine x_raise ?_) | (with_reducible refine x_gsub ?_) | (with_reducible refine x_fldaug ?_) | (with_reducible refine x_radd ?_) | (with_reducible refine x_ipi ?_) | ((with_reducible refine x_aug (x := ?vv) ?hh ?qq); (case hh => exact rfl))
  | ((with_reducible refine x_iteA ?hc ?q); (case hc => exact rfl)) | ((with_reducible refine x_iteB ?hc ?q); (case hc => exact rfl))
  | ((with_reducible refine x_var (v := ?vv) ?hh ?qq); (case hh => exact rfl))
  | ((with_reducible refine r_isInt (d := ?dd) ?hh ?qq); (case hh => assumption)) | ((with_reducible refine r_isBool (d := ?dd) ?hh ?qq); (case hh => assumption)) | ((with_reducible refine r_isTup (d := ?dd) ?hh ?qq); (case hh => assumption))
  | ((with_reducible refine r_isStr (d := ?dd) ?hh ?qq); (case hh => assumption)) | ((with_reducible refine r_isLst (d := ?dd) ?hh ?qq); (case hh => assumption))))
local macro_rules | `(tactic| walk_at "y") => `(tactic| (repeat (walk_at "y1")))
section
variable {P : Program} {w : World} {K : PySem.W.Frag} {mg : Str → Option Value} {base : Heap}
def BoxAt (b : Addr) (H : Hp) : Prop := ∃ i j k : Int, H b = some (.lst [.int i, .int j, .int k])
theorem BoxAt.go {S : List Addr} {b : Addr} {H H' : Hp} (h : BoxAt b H) (g : Go S H H') (n : b ∉ S) : BoxAt b H' := by
  obtain ⟨i, j, k, e⟩ := h
  exact ⟨i, j, k, g.keep b _ n e⟩
def spTake : Sp := fun vs H Q _ => ∃ (b : Addr) (m : Nat), vs = [.ref b, .int (m : Int)] ∧ BoxAt b H ∧ 0 < m ∧ m < 1000000 ∧ ∀ (r : Nat) H', r < m → Go [b] H H' → BoxAt b H' → Q (.int (r : Int)) H'
theorem fmod_nat (x : Int) {m : Nat} (h : 0 < m) : ∃ r : Nat, r < m ∧ Int.fmod x m = (r : Int) := by
  have h1 : (0 : Int) < m := by omega
  refine ⟨(Int.fmod x m).toNat, ?_, ?_⟩
  · have := Int.fmod_lt_of_pos x h1
    have := Int.fmod_nonneg_of_pos x h1
    omega
  · have := Int.fmod_nonneg_of_pos x h1
    omega
abbrev s_take : Stmt := top 28
abbrev nms_take : List Str := ["box", "many", "digit", "raw"]
theorem sc_take : FnScope nms_take ["box", "many"] (defScope s_take) := ⟨rfl, rfl, rfl, by decide +kernel, rfl, by decide +kernel, by decide +kernel⟩
theorem ok_take {f : Addr} {fd : FuncData} (F : Fun K "_law_take" "_law_take" s_take f fd) (hm : mg "_law_take" = some (.ref f)) (b : Binds K fd ["box", "many"] []) (T : Bt mg) : Cal P w K mg base 1 "_law_take" spTake := by
  refine cal_of F hm b sc_take (fun vs H Q E h => ?_) (fun cdv A outer s H vs Q E hr h => ?_)
  · obtain ⟨b, m, rfl, _⟩ := h
    rfl
  · obtain ⟨b, m, rfl, ⟨i, j, k, eb⟩, h0, h1, q⟩ := h
    have hu64 := pass_hu64 hr
    refine ⟨_, (pss_cons (ps_if (pt_cmpR op_gt (pe_ix (oIxK K) (pv 0) pe_int (fun _ _ => rfl)) pe_int (nomark _))
    (pss_cons (ps_set (i := 2) sc_take.nd rfl (by first | exact Or.inl rfl | exact Or.inr rfl) (pe_op op_modN (pe_callTy cInt (by rfl) T.int (by decide +kernel) (pa_cons (pe_ix (oIxK K) (pv 0) pe_int (fun _ _ => rfl)) pa_nil)) (pv 1)))
    (pss_cons (ps_asg (pe_op op_fdivN (pe_ix (oIxK K) (pv 0) pe_int (fun _ _ => rfl)) (pv 1)) (pg_sub (pv 0) pe_int set_list))
    (pss_one (ps_ret (pv 2)))))
    pss_nil)
    (pss_cons (ps_asg (pe_op (oAddK K) (pe_ix (oIxK K) (pv 0) pe_int (fun _ _ => rfl)) pe_int) (pg_sub (pv 0) pe_int set_list))
    (pss_cons (ps_set (i := 3) sc_take.nd rfl (by first | exact Or.inl rfl | exact Or.inr rfl) (pe_op op_modN (pe_callTy cInt (by rfl) T.int (by decide +kernel) (pa_cons (pe_op (oAddK K) (pe_op oMul (pe_op (oAddK K) (pe_ix (oIxK K) (pv 0) pe_int (fun _ _ => rfl)) (pe_op oMul pe_int (pe_ix (oIxK K) (pv 0) pe_int (fun _ _ => rfl)))) pe_int) pe_int) pa_nil)) pe_int))
    (pss_cons (ps_asg (pe_op (oAddK K) (pe_op op_modN (pe_callTy cInt (by rfl) T.int (by decide +kernel) (pa_cons (pe_op (oAddK K) (pe_op oMul (pv 3) pe_int) pe_int) pa_nil)) pe_int) pe_int) (pg_sub (pv 0) pe_int set_list))
    (pss_one (ps_ret (pe_op op_modN (pe_callTy cInt (by rfl) T.int (by decide +kernel) (pa_cons (pe_op op_fdivN (pe_op (oAddK K) (pe_op oMul (pv 3) pe_int) (pe_ix (oIxK K) (pv 0) pe_int (fun _ _ => rfl))) pe_int) pa_nil)) (pv 1)))))))), ?_⟩
    try dsimp only [cxOf]
    have cd : ∀ x : Int, CDivN x (m : Int) := fun x => ⟨by omega, by omega⟩
    have cm : (m : Int) ≠ 0 := by omega
    walk_at "y"
    refine x_ixl eb (n := 0) rfl rfl ?_
    walk_at "y"
    by_cases c : (0 : Int) < i
    · rw [show decide (i > 0) = true from decide_eq_true c]
      walk_at "y"
      refine x_ixl eb (n := 0) rfl rfl ?_
      walk_at "y"
      refine x_iC cm ?_
      walk_at "y"
      refine x_ixl eb (n := 0) rfl rfl ?_
      walk_at "y"
      refine x_iC (cd _) ?_
      walk_at "y"
      refine x_setl eb (n := 0) rfl (by simp) fun H1 g1 h1 => ?_
      obtain ⟨r, hr1, hr2⟩ := fmod_nat i h0
      rw [hr2]
      walk_at "y"
      exact q r H1 hr1 g1 ⟨_, _, _, h1⟩
    · rw [show decide (i > 0) = false from decide_eq_false (by omega)]
      walk_at "y"
      refine x_ixl eb (n := 2) rfl rfl ?_
      walk_at "y"
      refine x_setl eb (n := 2) rfl (by simp) fun H1 g1 h1 => ?_
      replace h1 : H1 b = some (.lst [.int i, .int j, .int (k + 1)]) := h1
      walk_at "y"
      refine x_ixl h1 (n := 1) rfl rfl ?_
      walk_at "y"
      refine x_ixl h1 (n := 2) rfl rfl ?_
      refine x_muli (.inl (by decide)) ?_
      walk_at "y"
      refine x_muli (cmulR _ (by decide)) ?_
      walk_at "y"
      refine x_iC (by decide) ?_
      walk_at "y"
      refine x_muli (cmulR _ (by decide)) ?_
      walk_at "y"
      refine x_iC (by decide) ?_
      walk_at "y"
      refine x_setl h1 (n := 1) rfl (by simp) fun H2 g2 h2 => ?_
      walk_at "y"
      refine x_muli (cmulR _ (by decide)) ?_
      walk_at "y"
      refine x_ixl h2 (n := 1) rfl rfl ?_
      walk_at "y"
      refine x_iC ⟨by decide, by decide⟩ ?_
      walk_at "y"
      refine x_iC cm ?_
      obtain ⟨r, hr1, hr2⟩ := fmod_nat (Int.fdiv (Int.fmod ((j + 70001 * (k + 1)) * 61211 + 37) 2147483563 * 2147483647 + (Int.fmod (Int.fmod ((j + 70001 * (k + 1)) * 61211 + 37) 2147483563 * 38011 + 23057) 2147483629 + 1)) 8191) h0
      rw [hr2]
      exact q r H2 hr1 (g1.trans g2) ⟨_, _, _, h2⟩
def spPick : Sp := fun vs H Q _ => ∃ (b l : Addr) (xs : List V), vs = [.ref b, .ref l] ∧ BoxAt b H ∧ H l = some (.lst xs) ∧ b ≠ l ∧ 0 < xs.length ∧ xs.length < 1000000 ∧ ∀ (i : Nat) x H', xs[i]? = some x → Go [b] H H' → BoxAt b H' → Q x H'
abbrev s_pick : Stmt := top 29
abbrev nms_pick : List Str := ["box", "some"]
theorem sc_pick : FnScope nms_pick ["box", "some"] (defScope s_pick) := ⟨rfl, rfl, rfl, by decide +kernel, rfl, by decide +kernel, by decide +kernel⟩
theorem ok_pick {f : Addr} {fd : FuncData} (F : Fun K "_law_pick" "_law_pick" s_pick f fd) (hm : mg "_law_pick" = some (.ref f)) (b : Binds K fd ["box", "some"] []) (T : Bt mg) (c_take : Cal P w K mg base 1 "_law_take" spTake) : Cal P w K mg base 2 "_law_pick" spPick := by
  refine cal_of F hm b sc_pick (fun vs H Q E h => ?_) (fun cdv A outer s H vs Q E hr h => ?_)
  · obtain ⟨b, l, xs, rfl, _⟩ := h
    rfl
  · obtain ⟨b, l, xs, rfl, eb, el, hbl, h0, h1, q⟩ := h
    have hu64 := pass_hu64 hr
    refine ⟨_, (pss_one (ps_ret (pe_ix (oIxK K) (pv 1) (pe_c c_take hr (by decide) (by rfl) (pa_cons (pv 0) (pa_cons (pe_callB cLen (by rfl) T.len (by decide +kernel) (pa_cons (pv 1) pa_nil)) pa_nil))) (fun _ _ => rfl)))), ?_⟩
    try dsimp only [cxOf]
    walk_at "y"
    refine x_lenl el ?_
    walk_at "y"
    refine ⟨b, xs.length, rfl, eb, h0, h1, fun r H1 hr g1 b1 => ?_⟩
    have el1 := g1.keep l _ (by simp [Ne.symm hbl]) el
    refine x_ixl el1 (n := r) rfl (List.getElem?_eq_getElem hr) ?_
    exact q r _ H1 (List.getElem?_eq_getElem hr) g1 b1
/-! ### box -/
theorem x_lenS {K : PySem.W.Frag} {H : Hp} {Q : VK} {l : Addr} {xs : List V} (h : SqL K H l xs) (q : Q (.int (xs.length : Int)) H) : rLen K [.ref l] H Q := ⟨_, xs.length, rfl, .inl ⟨xs, h, rfl⟩, q⟩
theorem x_ixS {K : PySem.W.Frag} {H : Hp} {Q : VK} {l : Addr} {xs : List V} {i : Int} {n : Nat} {v : V} (h : SqL K H l xs) (hi : i = (n : Int)) (hv : xs[n]? = some v) (q : Q v H) : rIxU K (.ref l) (.int i) H Q :=
  .inl ⟨l, xs, i, v, rfl, rfl, h, by rw [hi]; exact atI_nat hv, q⟩
def spBox (K : PySem.W.Frag) : Sp := fun vs H Q _ => ∃ (l : Addr) (ns : List Int) (k : Nat), vs = [.ref l, .int (k : Int)] ∧ SqL K H l (ns.map V.int) ∧ k < 10 ∧ ∀ b H', Ex H H' → H b = none → BoxAt b H' → Q (.ref b) H'
abbrev s_box : Stmt := top 27
abbrev nms_box : List Str := ["script", "k", "cell"]
theorem sc_box : FnScope nms_box ["script", "k"] (defScope s_box) := ⟨rfl, rfl, rfl, by decide +kernel, rfl, by decide +kernel, by decide +kernel⟩
theorem ok_box {f : Addr} {fd : FuncData} (F : Fun K "_law_box" "_law_box" s_box f fd) (hm : mg "_law_box" = some (.ref f)) (b : Binds K fd ["script", "k"] []) (T : Bt mg) : Cal P w K mg base 1 "_law_box" (spBox K) := by
  refine cal_of F hm b sc_box (fun vs H Q E h => ?_) (fun cdv A outer s H vs Q E hr h => ?_)
  · obtain ⟨l, ns, k, rfl, _⟩ := h
    rfl
  · obtain ⟨l, ns, k, rfl, el, hk, q⟩ := h
    have hu64 := pass_hu64 hr
    refine ⟨_, (pss_cons (ps_set (i := 2) sc_box.nd rfl (by first | exact Or.inl rfl | exact Or.inr rfl) (pe_op (oAddK K) (pe_op oMul pe_int (pv 1)) pe_int))
    (pss_cons (ps_if (pt_cmpR (oLtK K hu64) (pv 1) (pe_callB cLen (by rfl) T.len (by decide +kernel) (pa_cons (pv 0) pa_nil)) (nomark _))
    (pss_one (ps_set (i := 2) sc_box.nd rfl (by first | exact Or.inl rfl | exact Or.inr rfl) (pe_callB cAbs (by rfl) T.abs (by decide +kernel) (pa_cons (pe_ix (oIxK K) (pv 0) (pv 1) (fun _ _ => rfl)) pa_nil))))
    (pss_one (ps_if (pt_cmpR op_gt (pe_callB cLen (by rfl) T.len (by decide +kernel) (pa_cons (pv 0) pa_nil)) pe_int (nomark _))
    (pss_one (ps_set (i := 2) sc_box.nd rfl (by first | exact Or.inl rfl | exact Or.inr rfl) (pe_op (oAddK K) (pv 2) (pe_op oMul (pe_op op_modN (pe_callTy cInt (by rfl) T.int (by decide +kernel) (pa_cons (pe_callB cAbs (by rfl) T.abs (by decide +kernel) (pa_cons (pe_ix (oIxK K) (pv 0) (pe_op op_modN (pe_callTy cInt (by rfl) T.int (by decide +kernel) (pa_cons (pv 1) pa_nil)) (pe_callB cLen (by rfl) T.len (by decide +kernel) (pa_cons (pv 0) pa_nil))) (fun _ _ => rfl)) pa_nil)) pa_nil)) pe_int) pe_int))))
    pss_nil)))
    (pss_one (ps_ret (pe_lst (pa_cons (pe_ix (oIxK K) (pe_lst (pa_cons pe_int (pa_cons (pv 2) pa_nil))) (pe_callTy cInt (by rfl) T.int (by decide +kernel) (pa_cons (pe_cmpR op_ge (pv 2) (pe_op op_pow pe_int pe_int) (nomark _)) pa_nil)) (fun _ _ => rfl)) (pa_cons (pe_op (oAddK K) (pe_op op_modN (pe_callTy cInt (by rfl) T.int (by decide +kernel) (pa_cons (pe_op (oAddK K) (pe_op oMul (pe_op op_modN (pe_callTy cInt (by rfl) T.int (by decide +kernel) (pa_cons (pv 2) pa_nil)) pe_int) pe_int) (pe_op oMul pe_int (pv 1))) pa_nil)) pe_int) pe_int) (pa_cons pe_int pa_nil)))))))), ?_⟩
    try dsimp only [cxOf]
    -- the end, of any number
    have fin : ∀ (c : Int), tRet (tLst (tCons (tOp (rIxU K) (tLst (tCons (tC (V.int 0)) (tCons (tVar 2) tNil))) (tCB rInt (tCons (tOp (rI0 fun i j => V.bl (decide (j ≤ i))) (tVar 2) (tOp (rI CPow fun i j => V.int (i ^ j.toNat)) (tC (V.int 10)) (tC (V.int 18)))) tNil)))
        (tCons (tOp (rAddU K) (tOp (rI (fun x j => j ≠ 0) fun i j => V.int (i.fmod j)) (tCB rInt (tCons (tOp (rAddU K) (tOp rMulU (tOp (rI (fun x j => j ≠ 0) fun i j => V.int (i.fmod j)) (tCB rInt (tCons (tVar 2) tNil)) (tC (V.int 2147483629))) (tC (V.int 44017))) (tOp rMulU (tC (V.int 53089)) (tVar 1))) tNil)) (tC (V.int 2147483629))) (tC (V.int 1)))
          (tCons (tC (V.int 0)) tNil)))) { nx := fun x H' => Q V.non H', rt := Q } [some (V.ref l), some (V.int (k : Int)), some (V.int c)] H := fun c => by
      walk_at "y"
      refine x_mkl fun p1 H1 e1 n1 h1 => ?_
      walk_at "y"
      refine x_iC ⟨by decide, by decide, by decide⟩ ?_
      walk_at "y"
      refine x_ixl h1 (n := if decide (c ≥ 10 ^ (18 : Int).toNat) = true then 1 else 0) (by split <;> rfl) (v := .int (if decide (c ≥ 10 ^ (18 : Int).toNat) = true then c else 0)) (by split <;> rfl) ?_
      walk_at "y"
      refine x_iC (by decide) ?_
      walk_at "y"
      refine x_muli (cmulR _ (by decide)) ?_
      walk_at "y"
      refine x_muli (.inl (by decide)) ?_
      walk_at "y"
      refine x_iC (by decide) ?_
      walk_at "y"
      refine x_mkl fun p2 H2 e2 n2 h2 => ?_
      exact q p2 H2 (e1.trans e2) (e1.free n2) ⟨_, _, _, h2⟩
    walk_at "y"
    refine x_muli (.inl (by decide)) ?_
    walk_at "y"
    refine x_lenS el ?_
    rw [List.length_map]
    refine .inl ?_
    walk_at "y"
    by_cases c1 : k < ns.length
    · rw [show decide ((k : Int) < ns.length) = true from decide_eq_true (by omega)]
      walk_at "y"
      refine x_ixS el (n := k) rfl (by rw [List.getElem?_map, List.getElem?_eq_getElem c1]; rfl) ?_
      first | refine x_abs ?_ | refine x_nil (x_abs ?_)
      exact fin _
    · rw [show decide ((k : Int) < ns.length) = false from decide_eq_false (by omega)]
      walk_at "y"
      refine x_lenS el ?_
      rw [List.length_map]
      walk_at "y"
      by_cases c2 : 0 < ns.length
      · rw [show decide ((ns.length : Int) > 0) = true from decide_eq_true (by omega)]
        walk_at "y"
        refine x_lenS el ?_
        rw [List.length_map]
        refine x_iC (show (ns.length : Int) ≠ 0 by omega) ?_
        obtain ⟨r, hr1, hr2⟩ := fmod_nat (k : Int) c2
        rw [hr2]
        refine x_ixS el (n := r) rfl (by rw [List.getElem?_map, List.getElem?_eq_getElem hr1]; rfl) ?_
        walk_at "y"
        refine x_iC (by decide) ?_
        walk_at "y"
        refine x_muli (cmulR _ (by decide)) ?_
        refine x_addi ?_
        exact fin _
      · rw [show decide ((ns.length : Int) > 0) = false from decide_eq_false (by omega)]
        refine x_ite0 ?_
        exact fin _
end
end Y
/-! part C1 -/
/-! The law's same: told of two that stand for one datum. -/
namespace Y
open PySem L2
local macro_rules | `(tactic| walk_at "y1") => `(tactic| (first
  | (with_reducible refine x_seq ?_) | (with_reducible refine x_asg ?_) | (with_reducible refine x_name ?_) | (with_reducible refine x_drop ?_) | (with_reducible refine x_ret ?_) | (with_reducible refine x_retN ?_)
  | (with_reducible refine x_next ?_) | (with_reducible refine x_brk ?_) | (with_reducible refine x_ifS ?_)
  | (with_reducible refine x_c ?_) | (with_reducible refine x_op ?_) | (with_reducible refine x_un ?_) | (with_reducible refine x_cb ?_) | (with_reducible refine x_cons ?_) | (with_reducible refine x_nil ?_)
  | (with_reducible refine x_call ?_) | (with_reducible refine x_tup ?_) | (with_reducible refine x_lst ?_) | (with_reducible refine x_sl ?_) | (with_reducible refine x_nopart ?_) | (with_reducible refine x_part ?_)
  | (with_reducible refine x_andV ?_) | (with_reducible refine x_orV ?_) | (with_reducible refine x_notV ?_) | (with_reducible refine x_if ?_) | (with_reducible refine x_test ?_) | (with_reducible refine x_tb ?_)
  | (with_reducible refine x_and ?_) | (with_reducible refine x_or ?_) | (with_reducible refine x_not ?_) | (with_reducible refine x_chain ?_) | (with_reducible refine x_exbl ?_) | (with_reducible refine x_exint ?_)
  | (with_reducible refine x_fld ?_) | (with_reducible refine x_sfld ?_) | (with_reducible refine x_par ?_) | (with_reducible refine x_par3 ?_) | (with_reducible refine x_dget ?_) | (with_reducible refine x_dput ?_)
  | (with_reducible refine x_bm ?_) | (with_reducible refine x_bm0 ?_) | (with_reducible refine x_pair ?_) | (with_reducible refine x_tri ?_) | (with_reducible refine x_int ?_) | (with_reducible refine x_intb ?_) | (with_reducible refine x_abs ?_) | (with_reducible refine x_isN ?_) | (with_reducible refine x_notN ?_) | (with_reducible refine x_meth ?_) | (with_reducible refine x_make ?_)
  | (with_reducible refine x_ite1 ?_) | (with_reducible refine x_ite0 ?_)
  | (with_reducible refine x_addi ?_) | (with_reducible refine x_neg ?_) | (with_reducible refine x_i0 ?_) | (with_reducible refine x_eqi ?_) | (with_reducible refine x_eqs ?_) | (with_reducible refine x_eqb ?_) | (with_reducible refine x_nei ?_) | (with_reducible refine x_lti ?_)
  | (with_reducible refine x_forL ?_) | (with_reducible refine x_forT ?_) | (with_reducible refine x_forR ?_) | (with_reducible refine x_forR2 ?_) | (with_reducible refine x_lcL ?_) | (with_reducible refine x_lcT ?_) | (with_reducible refine x_lcR ?_)
  | (with_reducible refine x_yes ?_) | (with_reducible refine x_pcons ?_) | (with_reducible refine x_pnil ?_) | (with_reducible refine x_gcons ?_) | (with_reducible refine x_gnil ?_) | (with_reducible refine x_gattr ?_) | (with_reducible refine x_raise ?_) | (with_reducible refine x_gsub ?_) | (with_reducible refine x_fldaug ?_) | (with_reducible refine x_radd ?_) | (with_reducible refine x_ipi ?_) | ((with_reducible refine x_aug (x := ?vv) ?hh ?qq); (case hh => exact rfl))
  | ((with_reducible refine x_iteA ?hc ?q); (case hc => exact rfl)) | ((with_reducible refine x_iteB ?hc ?q); (case hc => exact rfl))
  | ((with_reducible refine x_var (v := ?vv) ?hh ?qq); (case hh => exact rfl))
  | ((with_reducible refine r_isInt (d := ?dd) ?hh ?qq); (case hh => assumption)) | ((with_reducible refine r_isBool (d := ?dd) ?hh ?qq); (case hh => assumption)) | ((with_reducible refine r_isTup (d := ?dd) ?hh ?qq); (case hh => assumption))
  | ((with_reducible refine r_isStr (d := ?dd) ?hh ?qq); (case hh => assumption)) | ((with_reducible refine r_isLst (d := ?dd) ?hh ?qq); (case hh => assumption))))
local macro_rules | `(tactic| walk_at "y") => `(tactic| (repeat (walk_at "y1")))
/-- no tuple in it is long -/
def narrow : PyData → Bool
  | .tuple xs => decide (xs.length ≤ 1000) && narrowL xs
  | _ => true
where
  narrowL : List PyData → Bool
  | [] => true
  | d :: ds => narrow d && narrowL ds
theorem narrowL_iff : ∀ {ds : List PyData}, narrow.narrowL ds = true ↔ ∀ d ∈ ds, narrow d = true
  | [] => by simp [narrow.narrowL]
  | d :: ds => by
    have ih := @narrowL_iff ds
    show (narrow d && narrow.narrowL ds) = true ↔ _
    rw [Bool.and_eq_true, ih]
    simp
theorem narrow_tup {ds : List PyData} (h : ds.length ≤ 1000) (h' : ∀ d ∈ ds, narrow d = true) : narrow (.tuple ds) = true := by
  show (decide (ds.length ≤ 1000) && narrow.narrowL ds) = true
  rw [decide_eq_true h, narrowL_iff.mpr h']
  rfl
mutual
theorem narrow_of : ∀ {d : PyData}, nodes d ≤ 1000 → narrow d = true
  | .tuple ds, h => by
    have h : nodesL ds + 1 ≤ 1000 := h
    have := nodesL_len ds
    show (decide (ds.length ≤ 1000) && narrow.narrowL ds) = true
    rw [decide_eq_true (by omega), narrowL_of (by omega)]
    rfl
  | .none, _ => rfl
  | .bool _, _ => rfl
  | .int _, _ => rfl
  | .str _, _ => rfl
  | .list _, _ => rfl
  | .dict _, _ => rfl
theorem narrowL_of : ∀ {ds : List PyData}, nodesL ds ≤ 1000 → narrow.narrowL ds = true
  | [], _ => rfl
  | d :: ds, h => by
    have h : nodes d + nodesL ds ≤ 1000 := h
    show (narrow d && narrow.narrowL ds) = true
    rw [narrow_of (by omega), narrowL_of (by omega)]
    rfl
end
/-- what same can be told of -/
structure Sm (n : Nat) (d : PyData) : Prop where
  to : tupOnly d = true
  nw : narrow d = true
  dp : d.depth < n
theorem Sm.mono {n m : Nat} {d : PyData} (h : Sm n d) (l : n ≤ m) : Sm m d := ⟨h.to, h.nw, Nat.lt_of_lt_of_le h.dp l⟩
theorem Sm.tup {n : Nat} {ds : List PyData} (hl : ds.length ≤ 1000) (hn : 0 < n) (h : ∀ d ∈ ds, Sm n d) : Sm (n + 1) (.tuple ds) :=
  ⟨tup_to fun d hd => (h d hd).to, narrow_tup hl fun d hd => (h d hd).nw, by
    show PyData.depthAll ds + 1 < n + 1
    have := depthAll_le (n := n - 1) fun d hd => (by have := (h d hd).dp; omega : d.depth ≤ n - 1)
    omega⟩
theorem sm_int (i : Int) : Sm 1 (.int i) := ⟨rfl, rfl, Nat.lt_succ_self _⟩
theorem sm_str (i : Str) : Sm 1 (.str i) := ⟨rfl, rfl, Nat.lt_succ_self _⟩
theorem sm_val {d : PyData} (h : valOk d = true) : Sm 4 d := ⟨(val_of h).to, narrow_of (Nat.le_trans (val_of h).nd (by decide)), Nat.lt_succ_of_le (val_of h).dp⟩
theorem sm_key {k : KeyT} (h : k ∈ uni) : Sm 2 (tkD k) := Sm.tup (by rw [List.length_map]; have := key_len h; omega) (by decide) fun d hd => by
  obtain ⟨x, _, rfl⟩ := List.mem_map.mp hd
  cases x
  · exact sm_int _
  · exact sm_str _
theorem sm_pair {k : KeyT} {d : PyData} (h : k ∈ uni) (h' : valOk d = true) : Sm 5 (pairD (k, d)) := Sm.tup (by simp) (by decide) fun x hx => by
  simp only [List.mem_cons, List.not_mem_nil, or_false] at hx
  rcases hx with rfl | rfl
  · exact (sm_key h).mono (by decide)
  · exact sm_val h'
theorem sm_page {p : Page} (h : PageOk p) : Sm 6 (pageD p) := Sm.tup (by rw [List.length_map]; have := h.len; omega) (by decide) fun x hx => by
  obtain ⟨kv, m, rfl⟩ := List.mem_map.mp hx
  exact sm_pair (h.ks kv m) (h.vs kv m)
theorem sm_ent {e : Entry} (h : EntOk e) : Sm 7 (entD e) := Sm.tup (by simp) (by decide) fun x hx => by
  simp only [List.mem_cons, List.not_mem_nil, or_false] at hx
  rcases hx with rfl | rfl | rfl | rfl
  · exact (sm_int _).mono (by decide)
  · exact (sm_int _).mono (by decide)
  · exact (sm_int _).mono (by decide)
  · exact sm_page h
theorem sm_slots {S : List Slot} (h : ∀ s ∈ S, SlotOk s) (hl : S.length ≤ 1000) : Sm 8 (.tuple (S.map slD)) := Sm.tup (by rw [List.length_map]; exact hl) (by decide) fun x hx => by
  obtain ⟨s, m, rfl⟩ := List.mem_map.mp hx
  cases s with
  | none => exact ⟨rfl, rfl, by show 1 < 7; decide⟩
  | some e => exact sm_ent (h _ m e rfl)
theorem sm_puts {U : List (Nat × Entry)} (h : ∀ p ∈ U, EntOk p.2) (hl : U.length ≤ 1000) : Sm 9 (.tuple ((U.map entP).map putD)) := Sm.tup (by rw [List.length_map, List.length_map]; exact hl) (by decide) fun x hx => by
  rw [List.map_map] at hx
  obtain ⟨s, m, rfl⟩ := List.mem_map.mp hx
  refine Sm.tup (by simp) (by decide) fun y hy => ?_
  simp only [List.mem_cons, List.not_mem_nil, or_false] at hy
  rcases hy with rfl | rfl
  · exact (sm_int _).mono (by decide)
  · exact sm_ent (h s m)
section
variable {P : Program} {w : World} {K : PySem.W.Frag} {mg : Str → Option Value} {base : Heap}
def spSame (K : PySem.W.Frag) (n : Nat) : Sp := fun vs H Q _ => ∃ x y d, vs = [x, y] ∧ Wt K H x d ∧ Wt K H y d ∧ Sm n d ∧ ∀ H', Ex H H' → Q (.bl true) H'
theorem all_rep (n : Nat) : ((List.replicate n true).all id) = true := by
  rw [List.all_eq_true]
  intro x hx
  exact (List.mem_replicate.mp hx).2
abbrev s_same : Stmt := top 30
abbrev nms_same : List Str := ["one", "other", "place"]
theorem sc_same : FnScope nms_same ["one", "other"] (defScope s_same) := ⟨rfl, rfl, rfl, by decide +kernel, rfl, by decide +kernel, by decide +kernel⟩
theorem ok_same {f : Addr} {fd : FuncData} (F : Fun K "_law_same" "_law_same" s_same f fd) (hm : mg "_law_same" = some (.ref f)) (b : Binds K fd ["one", "other"] []) (T : Bt mg) : ∀ n, Cal P w K mg base n "_law_same" (spSame K n)
  | 0 => ⟨f, fd, _, ⟨fun vs H Q E ⟨_, _, _, _, _, _, s, _⟩ => absurd s.dp (Nat.not_lt_zero _), fun A outer s H args us vs Q E _ _ _ _ ⟨_, _, _, _, _, _, s, _⟩ => absurd s.dp (Nat.not_lt_zero _)⟩, hm, F.kp, b⟩
  | n + 1 => by
    have c_same := ok_same F hm b T n
    refine cal_of F hm b sc_same (fun vs H Q E h => ?_) (fun cdv A outer s H vs Q E hr h => ?_)
    · obtain ⟨x, y, d, rfl, _⟩ := h
      rfl
    · obtain ⟨x, y, d, rfl, wx, wy, sm, q⟩ := h
      have hu64 := pass_hu64 hr
      refine ⟨_, (pss_cons (ps_if (pt_val (pe_callB call_isi (by rfl) T.isinstance (by decide +kernel) (pa_cons (pv 1) (pa_cons (pe_bltn (v := .ty "tuple") (by rfl) T.tuple (by decide +kernel) rfl) pa_nil))))
    (pss_cons (ps_if (PW.pt (pw_or (pt_not (pt_val (pe_callB call_isi (by rfl) T.isinstance (by decide +kernel) (pa_cons (pv 0) (pa_cons (pe_bltn (v := .ty "tuple") (by rfl) T.tuple (by decide +kernel) rfl) pa_nil))))) (pw_or1 (pt_cmpR (oNeK K hu64) (pe_callB cLen (by rfl) T.len (by decide +kernel) (pa_cons (pv 0) pa_nil)) (pe_callB cLen (by rfl) T.len (by decide +kernel) (pa_cons (pv 1) pa_nil)) (nomark _)))))
    (pss_one (ps_ret pe_bl))
    pss_nil)
    (pss_one (ps_ret (pe_callB (cr_all rfl) (by rfl) T.all (by decide +kernel) (pa_cons (pe_lc (own := [("place", 2)]) rfl sc_same.nd (pi_range1 (by rfl) T.range (pa_cons (pe_callB cLen (by rfl) T.len (by decide +kernel) (pa_cons (pv 1) pa_nil)) pa_nil)) (blkOk_by (N := nms_same) (sc := defScope s_same) (by decide +kernel)) (fun _ _ _ _ _ => (pg_name (i := 2) sc_same.nd rfl (by first | exact Or.inl rfl | exact Or.inr rfl))) (fun _ _ _ _ _ => pts_nil) (fun _ _ _ _ _ => (pe_c c_same hr (Nat.le_refl _) (by rfl) (pa_cons (pe_ix (oIxK K) (pv 0) (pv 2) (fun _ _ => rfl)) (pa_cons (pe_ix (oIxK K) (pv 1) (pv 2) (fun _ _ => rfl)) pa_nil))))) pa_nil)))))
    pss_nil)
    (pss_cons (ps_if (pt_cmpR op_isN1 (pv 1) pe_non (nomark _))
    (pss_one (ps_ret (pe_cmpR op_isN1 (pv 0) pe_non (nomark _))))
    pss_nil)
    (pss_cons (ps_if (pt_val (pe_callB call_isi (by rfl) T.isinstance (by decide +kernel) (pa_cons (pv 1) (pa_cons (pe_bltn (v := .ty "bool") (by rfl) T.bool (by decide +kernel) rfl) pa_nil))))
    (pss_one (ps_ret (pe_and (pe_callB call_isi (by rfl) T.isinstance (by decide +kernel) (pa_cons (pv 0) (pa_cons (pe_bltn (v := .ty "bool") (by rfl) T.bool (by decide +kernel) rfl) pa_nil))) (pe_one (pe_cmpR (oEqK K hu64) (pv 0) (pv 1) (nomark _))))))
    pss_nil)
    (pss_cons (ps_if (pt_val (pe_callB call_isi (by rfl) T.isinstance (by decide +kernel) (pa_cons (pv 1) (pa_cons (pe_bltn (v := .ty "str") (by rfl) T.str (by decide +kernel) rfl) pa_nil))))
    (pss_one (ps_ret (pe_and (pe_callB call_isi (by rfl) T.isinstance (by decide +kernel) (pa_cons (pv 0) (pa_cons (pe_bltn (v := .ty "str") (by rfl) T.str (by decide +kernel) rfl) pa_nil))) (pe_one (pe_cmpR (oEqK K hu64) (pv 0) (pv 1) (nomark _))))))
    pss_nil)
    (pss_one (ps_ret (pe_and (pe_callB call_isi (by rfl) T.isinstance (by decide +kernel) (pa_cons (pv 0) (pa_cons (pe_bltn (v := .ty "int") (by rfl) T.int (by decide +kernel) rfl) pa_nil))) (pe_and (pe_not (pe_callB call_isi (by rfl) T.isinstance (by decide +kernel) (pa_cons (pv 0) (pa_cons (pe_bltn (v := .ty "bool") (by rfl) T.bool (by decide +kernel) rfl) pa_nil)))) (pe_one (pe_cmpR (oEqK K hu64) (pv 0) (pv 1) (nomark _))))))))))), ?_⟩
      try dsimp only [cxOf]
      rcases d with _ | b | i | x0 | cs | cs | kv
      · have wx' := wx
        have wy' := wy
        walk_at "y"
        cases wx'
        cases wy'
        walk_at "y"
        exact q H (Ex.refl H)
      · have wx' := wx
        have wy' := wy
        walk_at "y"
        cases wx'
        cases wy'
        walk_at "y"
        rw [show decide (b = b) = true from decide_eq_true rfl]
        exact q H (Ex.refl H)
      · have wx' := wx
        have wy' := wy
        walk_at "y"
        cases wx'
        cases wy'
        walk_at "y"
        rw [show decide (i = i) = true from decide_eq_true rfl]
        exact q H (Ex.refl H)
      · have wx' := wx
        have wy' := wy
        walk_at "y"
        cases wx'
        cases wy'
        walk_at "y"
        rw [show decide (x0 = x0) = true from decide_eq_true rfl]
        exact q H (Ex.refl H)
      · have := sm.to
        cases this
      · have hnw := sm.nw
        have hnw : (decide (cs.length ≤ 1000) && narrow.narrowL cs) = true := hnw
        rw [Bool.and_eq_true, decide_eq_true_eq] at hnw
        have hto := tupOnlyL_iff.mp (show tupOnlyL cs = true from sm.to)
        have hnl := narrowL_iff.mp hnw.2
        have hdp : PyData.depthAll cs + 1 < n + 1 := sm.dp
        walk_at "y"
        refine x_lend wx ?_
        walk_at "y"
        refine x_lend wy ?_
        walk_at "y"
        rw [show decide (((cs.length : Nat) : Int) = (cs.length : Int)) = true from decide_eq_true rfl]
        walk_at "y"
        refine x_lend wy ?_
        refine y_lcR (K := K) [] (fun _ => True) (fun i ds => ds = (List.replicate i true).map .bool) cs.length (by omega) (by simp) keeps_true trivial rfl (fun i H2 ds hi g2 _ hds ok no hok hno => ?_) (fun E acc ds H2 nE g2 _ hE wd t hds => ?_)
        · refine turn_name rfl ?_
          have hc := List.getElem?_eq_getElem hi
          have hmem := List.mem_of_getElem? hc
          walk_at "y"
          refine x_ixd (wx.ex g2.ex) rfl hc fun u wu => ?_
          walk_at "y"
          refine x_ixd (wy.ex g2.ex) rfl hc fun u2 wu2 => ?_
          refine ⟨u, u2, _, rfl, wu, wu2, ⟨hto _ hmem, hnl _ hmem, ?_⟩, fun H3 e3 => ?_⟩
          · have : ∀ (l : List PyData) (x : PyData), x ∈ l → x.depth ≤ PyData.depthAll l := fun l x hx => by
              induction l with
              | nil => cases hx
              | cons a l ih =>
                show x.depth ≤ max a.depth (PyData.depthAll l)
                rcases List.mem_cons.mp hx with rfl | hx
                · exact Nat.le_max_left _ _
                · exact Nat.le_trans (ih hx) (Nat.le_max_right _ _)
            have := this cs _ hmem
            omega
          · refine hok _ (.bool true) H3 e3.go trivial (.bl _) rfl ?_
            dsimp only
            rw [hds, List.replicate_succ', List.map_append]
            rfl
        · subst hds
          walk_at "y"
          refine x_all hE wd ?_
          rw [all_rep]
          exact q H2 g2.ex
      · have := sm.to
        cases this
end
end Y
/-! part C2 -/
/-! The law's keys, values, rows. -/
namespace Y
open PySem L2
local macro_rules | `(tactic| walk_at "y1") => `(tactic| (first
  | (with_reducible refine x_seq ?_) | (with_reducible refine x_asg ?_) | (with_reducible refine x_name ?_) | (with_reducible refine x_drop ?_) | (with_reducible refine x_ret ?_) | (with_reducible refine x_retN ?_)
  | (with_reducible refine x_next ?_) | (with_reducible refine x_brk ?_) | (with_reducible refine x_ifS ?_)
  | (with_reducible refine x_c ?_) | (with_reducible refine x_op ?_) | (with_reducible refine x_un ?_) | (with_reducible refine x_cb ?_) | (with_reducible refine x_cons ?_) | (with_reducible refine x_nil ?_)
  | (with_reducible refine x_call ?_) | (with_reducible refine x_tup ?_) | (with_reducible refine x_lst ?_) | (with_reducible refine x_sl ?_) | (with_reducible refine x_nopart ?_) | (with_reducible refine x_part ?_)
  | (with_reducible refine x_andV ?_) | (with_reducible refine x_orV ?_) | (with_reducible refine x_notV ?_) | (with_reducible refine x_if ?_) | (with_reducible refine x_test ?_) | (with_reducible refine x_tb ?_)
  | (with_reducible refine x_and ?_) | (with_reducible refine x_or ?_) | (with_reducible refine x_not ?_) | (with_reducible refine x_chain ?_) | (with_reducible refine x_exbl ?_) | (with_reducible refine x_exint ?_)
  | (with_reducible refine x_fld ?_) | (with_reducible refine x_sfld ?_) | (with_reducible refine x_par ?_) | (with_reducible refine x_par3 ?_) | (with_reducible refine x_dget ?_) | (with_reducible refine x_dput ?_)
  | (with_reducible refine x_bm ?_) | (with_reducible refine x_bm0 ?_) | (with_reducible refine x_pair ?_) | (with_reducible refine x_tri ?_) | (with_reducible refine x_int ?_) | (with_reducible refine x_intb ?_) | (with_reducible refine x_abs ?_) | (with_reducible refine x_isN ?_) | (with_reducible refine x_notN ?_) | (with_reducible refine x_meth ?_) | (with_reducible refine x_make ?_)
  | (with_reducible refine x_ite1 ?_) | (with_reducible refine x_ite0 ?_)
  | (with_reducible refine x_addi ?_) | (with_reducible refine x_neg ?_) | (with_reducible refine x_i0 ?_) | (with_reducible refine x_eqi ?_) | (with_reducible refine x_eqs ?_) | (with_reducible refine x_eqb ?_) | (with_reducible refine x_nei ?_) | (with_reducible refine x_lti ?_)
  | (with_reducible refine x_forL ?_) | (with_reducible refine x_forT ?_) | (with_reducible refine x_forR ?_) | (with_reducible refine x_forR2 ?_) | (with_reducible refine x_lcL ?_) | (with_reducible refine x_lcT ?_) | (with_reducible refine x_lcR ?_)
  | (with_reducible refine x_yes ?_) | (with_reducible refine x_pcons ?_) | (with_reducible refine x_pnil ?_) | (with_reducible refine x_gcons ?_) | (with_reducible refine x_gnil ?_) | (with_reducible refine x_gattr ?_) | (with_reducible refine x_raise ?_) | (with_reducible refine x_gsub ?_) | (with_reducible refine x_fldaug ?_) | (with_reducible refine x_radd ?_) | (with_reducible refine x_ipi ?_) | ((with_reducible refine x_aug (x := ?vv) ?hh ?qq); (case hh => exact rfl))
  | ((with_reducible refine x_iteA ?hc ?q); (case hc => exact rfl)) | ((with_reducible refine x_iteB ?hc ?q); (case hc => exact rfl))
  | ((with_reducible refine x_var (v := ?vv) ?hh ?qq); (case hh => exact rfl))
  | ((with_reducible refine r_isInt (d := ?dd) ?hh ?qq); (case hh => assumption)) | ((with_reducible refine r_isBool (d := ?dd) ?hh ?qq); (case hh => assumption)) | ((with_reducible refine r_isTup (d := ?dd) ?hh ?qq); (case hh => assumption))
  | ((with_reducible refine r_isStr (d := ?dd) ?hh ?qq); (case hh => assumption)) | ((with_reducible refine r_isLst (d := ?dd) ?hh ?qq); (case hh => assumption))))
local macro_rules | `(tactic| walk_at "y") => `(tactic| (repeat (walk_at "y1")))
theorem key_mem {s : Str} {js : List Int} (hs : s ∈ words) (hl : js.length ≤ 2) (hj : ∀ j ∈ js, j ∈ digs) : ((.inr s :: js.map .inl) : KeyT) ∈ uni := by
  unfold uni
  rw [List.mem_flatMap]
  refine ⟨s, hs, ?_⟩
  match js with
  | [] => exact List.mem_cons_self ..
  | [i] =>
    refine List.mem_cons_of_mem _ (List.mem_flatMap.mpr ⟨i, hj i (by simp), ?_⟩)
    exact List.mem_cons_self ..
  | [i, j] =>
    refine List.mem_cons_of_mem _ (List.mem_flatMap.mpr ⟨i, hj i (by simp), ?_⟩)
    exact List.mem_cons_of_mem _ (List.mem_map.mpr ⟨j, hj j (by simp), rfl⟩)
  | _ :: _ :: _ :: _ => simp at hl
theorem dig_small {r : Nat} (h : r < 5) : (r : Int) ∈ digs := by
  match r, h with
  | 0, _ => decide
  | 1, _ => decide
  | 2, _ => decide
  | 3, _ => decide
  | 4, _ => decide
section
variable {P : Program} {w : World} {K : PySem.W.Frag} {mg : Str → Option Value} {base : Heap}
theorem keeps_box {b : Addr} {H : Hp} (h : BoxAt b H) : Keeps H fun H' => BoxAt b H' := fun E H1 H2 nE g hb => hb.go g (by
  obtain ⟨i, j, k, e⟩ := h
  intro z
  rw [← List.mem_singleton.mp z, e] at nE
  cases nE)
theorem box_ne {b : Addr} {H : Hp} (h : BoxAt b H) : H b ≠ none := by
  obtain ⟨i, j, k, e⟩ := h
  rw [e]
  simp
def spKeyL (K : PySem.W.Frag) : Sp := fun vs H Q _ => ∃ (b : Addr) (m : Nat), vs = [.ref b, .int (m : Int)] ∧ BoxAt b H ∧ 0 < m ∧ m ≤ 5 ∧ ∀ x k H', Go [b] H H' → BoxAt b H' → Wt K H' x (tkD k) → k ∈ uni → Q x H'
abbrev s_key : Stmt := top 31
abbrev nms_key : List Str := ["box", "wide", "word", "k"]
theorem sc_key : FnScope nms_key ["box", "wide"] (defScope s_key) := ⟨rfl, rfl, rfl, by decide +kernel, rfl, by decide +kernel, by decide +kernel⟩
theorem ok_key {f : Addr} {fd : FuncData} (F : Fun K "_law_key" "_law_key" s_key f fd) (hm : mg "_law_key" = some (.ref f)) (b : Binds K fd ["box", "wide"] []) (T : Bt mg) (c_take : Cal P w K mg base 1 "_law_take" spTake) (c_pick : Cal P w K mg base 2 "_law_pick" spPick) : Cal P w K mg base 3 "_law_key" (spKeyL K) := by
  refine cal_of F hm b sc_key (fun vs H Q E h => ?_) (fun cdv A outer s H vs Q E hr h => ?_)
  · obtain ⟨b, m, rfl, _⟩ := h
    rfl
  · obtain ⟨b, m, rfl, hb, h0, h5, q⟩ := h
    have hu64 := pass_hu64 hr
    refine ⟨_, (pss_cons (ps_set (i := 2) sc_key.nd rfl (by first | exact Or.inl rfl | exact Or.inr rfl) (pe_c c_pick hr (by decide) (by rfl) (pa_cons (pv 0) (pa_cons (pe_lst (pa_cons pe_str (pa_cons pe_str (pa_cons pe_str (pa_cons pe_str (pa_cons pe_str pa_nil)))))) pa_nil))))
    (pss_one (ps_ret (pe_op (oAddK K) (pe_tup (pa_cons (pv 2) pa_nil)) (pe_callTy cTuple (by rfl) T.tuple (by decide +kernel) (pa_cons (pe_lc (own := [("k", 3)]) rfl sc_key.nd (pi_range1 (by rfl) T.range (pa_cons (pe_c c_take hr (by decide) (by rfl) (pa_cons (pv 0) (pa_cons pe_int pa_nil))) pa_nil)) (blkOk_by (N := nms_key) (sc := defScope s_key) (by decide +kernel)) (fun _ _ _ _ _ => (pg_name (i := 3) sc_key.nd rfl (by first | exact Or.inl rfl | exact Or.inr rfl))) (fun _ _ _ _ _ => pts_nil) (fun _ _ _ _ _ => (pe_c c_pick hr (by decide) (by rfl) (pa_cons (pv 0) (pa_cons (pe_lst (pa_cons (pe_c c_take hr (by decide) (by rfl) (pa_cons (pv 0) (pa_cons (pv 1) pa_nil))) (pa_cons (pe_op op_pow pe_int pe_int) pa_nil))) pa_nil))))) pa_nil)))))), ?_⟩
    try dsimp only [cxOf]
    walk_at "y"
    refine x_mkl fun p1 H1 e1 n1 h1 => ?_
    have hb1 := hb.go e1.go (S := []) (by simp)
    walk_at "y"
    have nb1 : b ≠ p1 := fun z => box_ne hb (by rw [z]; exact n1)
    refine ⟨b, p1, _, rfl, hb1, h1, nb1, by simp, by simp, fun i x H2 hx g2 hb2 => ?_⟩
    have hw : ∃ s, s ∈ words ∧ x = .str s := by
      match i with
      | 0 => cases hx; exact ⟨_, by decide, rfl⟩
      | 1 => cases hx; exact ⟨_, by decide, rfl⟩
      | 2 => cases hx; exact ⟨_, by decide, rfl⟩
      | 3 => cases hx; exact ⟨_, by decide, rfl⟩
      | 4 => cases hx; exact ⟨_, by decide, rfl⟩
      | _ + 5 => cases hx
    obtain ⟨s, hs, rfl⟩ := hw
    walk_at "y"
    refine x_mkt (K := K) (.cons (.str s) .nil) fun u3 H3 e3 w3 => ?_
    have hb3 := hb2.go e3.go (S := []) (by simp)
    walk_at "y"
    refine ⟨b, 3, rfl, hb3, by decide, by decide, fun n H4 hn g4 hb4 => ?_⟩
    refine y_lcR (K := K) [b] (fun H' => BoxAt b H') (fun i ds => ∃ js : List Int, js.length = i ∧ (∀ j ∈ js, j ∈ digs) ∧ ds = js.map .int) n (by omega) (by intro z hz; rw [List.mem_singleton.mp hz]; exact box_ne hb4) (keeps_box hb4) hb4 ⟨[], rfl, by simp, rfl⟩ (fun i H5 ds hi g5 hb5 hds ok no hok hno => ?_) (fun E acc ds H5 nE g5 hb5 hE wd t hds => ?_)
    · obtain ⟨js, hl, hj, rfl⟩ := hds
      refine turn_name rfl ?_
      walk_at "y"
      refine ⟨b, m, rfl, hb5, h0, by omega, fun r H6 hr6 g6 hb6 => ?_⟩
      walk_at "y"
      refine x_iC ⟨by decide, by decide, by decide⟩ ?_
      walk_at "y"
      refine x_mkl fun p7 H7 e7 n7 h7 => ?_
      have hb7 := hb6.go e7.go (S := []) (by simp)
      have nb7 : b ≠ p7 := fun z => box_ne hb6 (by rw [z]; exact n7)
      refine ⟨b, p7, _, rfl, hb7, h7, nb7, by simp, by simp, fun i x H8 hx g8 hb8 => ?_⟩
      have hx : ∃ j, j ∈ digs ∧ x = .int j := by
        match i with
        | 0 => cases hx; exact ⟨_, dig_small (by omega), rfl⟩
        | 1 => cases hx; exact ⟨_, by decide, rfl⟩
        | _ + 2 => cases hx
      obtain ⟨j, hj1, rfl⟩ := hx
      refine hok _ (.int j) H8 (g6.trans (e7.go.trans g8)) hb8 (.int _) rfl ⟨js ++ [j], by simp [hl], fun z hz => ?_, by simp⟩
      rcases List.mem_append.mp hz with hz | hz
      · exact hj z hz
      · rw [List.mem_singleton.mp hz]; exact hj1
    · obtain ⟨js, hl, hj, rfl⟩ := hds
      walk_at "y"
      refine x_tupl hE fun p6 H6 e6 n6 h6 => ?_
      have w3' := (w3.go (g4.trans (g5.trans e6.go)) rfl)
      refine x_addt w3' (.tup h6 (wd.ex e6)) (by simp; omega) fun u7 H7 e7 w7 => ?_
      refine q u7 (.inr s :: js.map .inl) H7 ((e1.go.trans g2).trans ((e3.go.trans g4).trans (g5.trans (e6.go.trans e7.go)))) (hb5.go (e6.go.trans e7.go) (S := []) (by simp)) ?_ (key_mem hs (by omega) hj)
      have : tkD (.inr s :: js.map .inl) = .tuple ([.str s] ++ js.map .int) := by
        unfold tkD
        rw [List.map_cons, List.map_map]
        rfl
      rw [this]
      exact w7
/-! ### values -/
def spVal (K : PySem.W.Frag) : Sp := fun vs H Q _ => ∃ (b : Addr), vs = [.ref b] ∧ BoxAt b H ∧ ∀ x d H', Go [b] H H' → BoxAt b H' → Wt K H' x d → valOk d = true → Q x H'
abbrev s_value : Stmt := top 32
abbrev nms_value : List Str := ["box", "some"]
theorem sc_value : FnScope nms_value ["box"] (defScope s_value) := ⟨rfl, rfl, rfl, by decide +kernel, rfl, by decide +kernel, by decide +kernel⟩
theorem ok_value {f : Addr} {fd : FuncData} (F : Fun K "_law_value" "_law_value" s_value f fd) (hm : mg "_law_value" = some (.ref f)) (b : Binds K fd ["box"] []) (T : Bt mg) (c_take : Cal P w K mg base 1 "_law_take" spTake) (c_pick : Cal P w K mg base 2 "_law_pick" spPick) : Cal P w K mg base 3 "_law_value" (spVal K) := by
  refine cal_of F hm b sc_value (fun vs H Q E h => ?_) (fun cdv A outer s H vs Q E hr h => ?_)
  · obtain ⟨b, rfl, _⟩ := h
    rfl
  · obtain ⟨b, rfl, hb, q⟩ := h
    have hu64 := pass_hu64 hr
    refine ⟨_, (pss_cons (ps_set (i := 1) sc_value.nd rfl (by first | exact Or.inl rfl | exact Or.inr rfl) (pe_lst (pa_cons pe_non (pa_cons pe_bl (pa_cons pe_bl (pa_cons pe_int (pa_cons (pe_un un_neg pe_int) (pa_cons (pe_c c_take hr (by decide) (by rfl) (pa_cons (pv 0) (pa_cons pe_int pa_nil))) (pa_cons (pe_op op_pow pe_int pe_int) (pa_cons pe_str (pa_cons pe_str (pa_cons (pe_tup pa_nil) (pa_cons (pe_tup (pa_cons pe_int (pa_cons (pe_tup (pa_cons pe_str (pa_cons pe_non pa_nil))) pa_nil))) (pa_cons (pe_tup (pa_cons (pe_tup (pa_cons pe_int (pa_cons pe_int pa_nil))) (pa_cons pe_int pa_nil))) pa_nil))))))))))))))
    (pss_one (ps_ret (pe_c c_pick hr (by decide) (by rfl) (pa_cons (pv 0) (pa_cons (pv 1) pa_nil)))))), ?_⟩
    try dsimp only [cxOf]
    walk_at "y"
    refine ⟨b, 100, rfl, hb, by decide, by decide, fun n H1 hn g1 hb1 => ?_⟩
    walk_at "y"
    refine x_iC ⟨by decide, by decide, by decide⟩ ?_
    walk_at "y"
    refine x_mkt (K := K) .nil fun u2 H2 e2 w2 => ?_
    walk_at "y"
    refine x_mkt (K := K) (.cons (.str _) (.cons .non .nil)) fun u3 H3 e3 w3 => ?_
    walk_at "y"
    refine x_mkt (K := K) (.cons (.int _) (.cons w3 .nil)) fun u4 H4 e4 w4 => ?_
    walk_at "y"
    refine x_mkt (K := K) (.cons (.int _) (.cons (.int _) .nil)) fun u5 H5 e5 w5 => ?_
    walk_at "y"
    refine x_mkt (K := K) (.cons w5 (.cons (.int _) .nil)) fun u6 H6 e6 w6 => ?_
    walk_at "y"
    refine x_mkl fun p7 H7 e7 n7 h7 => ?_
    have hb7 := hb1.go (e2.trans (e3.trans (e4.trans (e5.trans (e6.trans e7))))).go (S := []) (by simp)
    have nb7 : b ≠ p7 := fun z => box_ne (hb1.go (e2.trans (e3.trans (e4.trans (e5.trans e6)))).go (S := []) (by simp)) (by rw [z]; exact n7)
    walk_at "y"
    refine ⟨b, p7, _, rfl, hb7, h7, nb7, by simp, by simp, fun i x H8 hx g8 hb8 => ?_⟩
    have W : ∃ d, Wt K H8 x d ∧ valOk d = true := by
      have wl : WtL K H7 _ _ := .cons .non (.cons (.bl true) (.cons (.bl false) (.cons (.int 0) (.cons (.int (-5)) (.cons (.int (n : Int)) (.cons (.int (10 ^ (30 : Int).toNat)) (.cons (.str "") (.cons (.str "a b") (.cons (w2.ex (e3.trans (e4.trans (e5.trans (e6.trans e7))))) (.cons (w4.ex (e5.trans (e6.trans e7))) (.cons (w6.ex e7) .nil)))))))))))
      obtain ⟨d, hd, wd⟩ := wl.get hx
      have ok : valOk d = true := by
        have hm := List.mem_of_getElem? hd
        simp only [List.mem_cons, List.not_mem_nil, or_false] at hm
        rcases hm with rfl | rfl | rfl | rfl | rfl | rfl | rfl | rfl | rfl | rfl | rfl | rfl <;> first | rfl | decide +kernel
      exact ⟨d, wd.go g8 (val_of ok).to, ok⟩
    obtain ⟨d, wd, ok⟩ := W
    exact q x d H8 (g1.trans ((e2.trans (e3.trans (e4.trans (e5.trans (e6.trans e7))))).go.trans g8)) hb8 wd ok
/-! ### rows -/
def spRowL (K : PySem.W.Frag) : Sp := fun vs H Q _ => ∃ (b : Addr) (n m : Nat), vs = [.ref b, .int (n : Int), .int (m : Int)] ∧ BoxAt b H ∧ n ≤ 14 ∧ 0 < m ∧ m ≤ 5 ∧ ∀ x p H', Go [b] H H' → BoxAt b H' → Wt K H' x (pageD p) → PageOk p → Q x H'
abbrev s_row : Stmt := top 33
abbrev nms_row : List Str := ["box", "most", "wide", "pairs", "k", "key"]
theorem sc_row : FnScope nms_row ["box", "most", "wide"] (defScope s_row) := ⟨rfl, rfl, rfl, by decide +kernel, rfl, by decide +kernel, by decide +kernel⟩
theorem ok_row {f : Addr} {fd : FuncData} (F : Fun K "_law_row" "_law_row" s_row f fd) (hm : mg "_law_row" = some (.ref f)) (b : Binds K fd ["box", "most", "wide"] []) (T : Bt mg) (c_take : Cal P w K mg base 1 "_law_take" spTake) (c_key : Cal P w K mg base 3 "_law_key" (spKeyL K)) (c_value : Cal P w K mg base 3 "_law_value" (spVal K)) : Cal P w K mg base 4 "_law_row" (spRowL K) := by
  refine cal_of F hm b sc_row (fun vs H Q E h => ?_) (fun cdv A outer s H vs Q E hr h => ?_)
  · obtain ⟨b, n, m, rfl, _⟩ := h
    rfl
  · obtain ⟨b, n, m, rfl, hb, hn, h0, h5, q⟩ := h
    have hu64 := pass_hu64 hr
    have hu1 : (A.deeper (PyProof.Rows.envOfC "_law_row" (defScope s_row) s.heap.objs.size f cdv)).units + 1 < cLine := by have := hr.un; omega
    have hu := hu64
    refine ⟨_, (pss_cons (ps_set (i := 3) sc_row.nd rfl (by first | exact Or.inl rfl | exact Or.inr rfl) pe_dnewT)
    (pss_cons (ps_for (passes_of rfl) rfl (pi_range1 (by rfl) T.range (pa_cons (pe_c c_take hr (by decide) (by rfl) (pa_cons (pv 0) (pa_cons (pe_op (oAddK K) (pv 1) pe_int) pa_nil))) pa_nil)) (pg_name (i := 4) sc_row.nd rfl (by first | exact Or.inl rfl | exact Or.inr rfl))
    (pss_one (ps_dput hu1 (pv 3) (pe_c c_key hr (by decide) (by rfl) (pa_cons (pv 0) (pa_cons (pv 2) pa_nil))) (pe_c c_value hr (by decide) (by rfl) (pa_cons (pv 0) pa_nil)) rfl)))
    (pss_one (ps_ret (pe_callTy cTuple (by rfl) T.tuple (by decide +kernel) (pa_cons (pe_lc (own := [("key", 5)]) rfl sc_row.nd (pi_list (pe_callB (call_sortK rfl hu) (by rfl) T.sorted (by decide +kernel) (pa_cons (pv 3) pa_nil))) (blkOk_by (N := nms_row) (sc := defScope s_row) (by decide +kernel)) (fun _ _ _ _ _ => (pg_name (i := 5) sc_row.nd rfl (by first | exact Or.inl rfl | exact Or.inr rfl))) (fun _ _ _ _ _ => pts_nil) (fun _ _ _ _ _ => (pe_tup (pa_cons (pv 5) (pa_cons (pe_dget hu1 (pv 3) (pv 5) (fun _ _ => rfl)) pa_nil))))) pa_nil)))))), ?_⟩
    try dsimp only [cxOf]
    refine x_seq (x_asg fun D nD => ?_)
    have e1 : Ex H (upd H D (.dT [])) := Ex.new nD
    have hD1 : TabAt K D [] (upd H D (.dT [])) := ⟨[], upd_same, .nil⟩
    revert e1 hD1
    generalize upd H D (.dT []) = H1
    intro e1 hD1
    have hb1 := hb.go e1.go (S := []) (by simp)
    have nDb : D ≠ b := fun z => box_ne hb (by rw [← z]; exact nD)
    walk_at "y"
    rw [show ((n : Int) + 1) = ((n + 1 : Nat) : Int) from by omega]
    refine ⟨b, n + 1, rfl, hb1, by omega, by omega, fun r H2 hr2 g2 hb2 => ?_⟩
    have hD2 : TabAt K D [] H2 := by
      obtain ⟨kvs, e, kv⟩ := hD1
      exact ⟨kvs, g2.keep D _ (by simp [nDb]) e, kv.go g2 (by simp)⟩
    walk_at "y"
    refine y_forR r (fun i σ H' => Go [b] H H' ∧ BoxAt b H' ∧ ∃ (t : Page) (o o2 : Option V), σ = [some (.ref b), some (.int (n : Int)), some (.int (m : Int)), some (.ref D), o, o2] ∧ TabAt K D t H' ∧ TabOk t) (by omega) ⟨e1.go.trans g2, hb2, [], _, _, rfl, hD2, TabOk.nil⟩ (fun i σ H3 hi p => ?_) fun σ H3 p => ?_
    · obtain ⟨g3, hb3, t, o, o2, rfl, hT, ht⟩ := p
      walk_at "y"
      refine ⟨b, rfl, hb3, fun x d H4 g4 hb4 wx hx => ?_⟩
      walk_at "y"
      refine ⟨b, m, rfl, hb4, h0, h5, fun x2 k H5 g5 hb5 wk hk => ?_⟩
      have hT5 : TabAt K D t H5 := by
        obtain ⟨kvs, e, kv⟩ := hT
        exact ⟨kvs, (g4.trans g5).keep D _ (by simp [nDb]) e, kv.go (g4.trans g5) ht.vs⟩
      refine x_kdputT hT5 ht wk hk (wx.go g5 (val_of hx).to) hx fun H6 g6 h6 => ?_
      exact ⟨go_drop nD (g3.trans (g4.trans g5)) g6, hb5.go g6 (by simp [Ne.symm nDb]), _, _, _, rfl, h6, ht.put hk hx⟩
    · obtain ⟨g3, hb3, t, o, o2, rfl, hT, ht⟩ := p
      show tRows K 5 3 _ H3 Q
      exact x_rows hT ht rfl (fun _ => rfl) (fun _ => rfl) (fun _ => rfl) fun v H4 e4 w4 => q v _ H4 (g3.trans e4.go) (hb3.go e4.go (S := []) (by simp)) w4 ht.sort
end
end Y
/-! part C3 -/
/-! The law's own reading of slots. -/
namespace Y
open PySem L2
local macro_rules | `(tactic| walk_at "y1") => `(tactic| (first
  | (with_reducible refine x_seq ?_) | (with_reducible refine x_asg ?_) | (with_reducible refine x_name ?_) | (with_reducible refine x_drop ?_) | (with_reducible refine x_ret ?_) | (with_reducible refine x_retN ?_)
  | (with_reducible refine x_next ?_) | (with_reducible refine x_brk ?_) | (with_reducible refine x_ifS ?_)
  | (with_reducible refine x_c ?_) | (with_reducible refine x_op ?_) | (with_reducible refine x_un ?_) | (with_reducible refine x_cb ?_) | (with_reducible refine x_cons ?_) | (with_reducible refine x_nil ?_)
  | (with_reducible refine x_call ?_) | (with_reducible refine x_tup ?_) | (with_reducible refine x_lst ?_) | (with_reducible refine x_sl ?_) | (with_reducible refine x_nopart ?_) | (with_reducible refine x_part ?_)
  | (with_reducible refine x_andV ?_) | (with_reducible refine x_orV ?_) | (with_reducible refine x_notV ?_) | (with_reducible refine x_if ?_) | (with_reducible refine x_test ?_) | (with_reducible refine x_tb ?_)
  | (with_reducible refine x_and ?_) | (with_reducible refine x_or ?_) | (with_reducible refine x_not ?_) | (with_reducible refine x_chain ?_) | (with_reducible refine x_exbl ?_) | (with_reducible refine x_exint ?_)
  | (with_reducible refine x_fld ?_) | (with_reducible refine x_sfld ?_) | (with_reducible refine x_par ?_) | (with_reducible refine x_par3 ?_) | (with_reducible refine x_dget ?_) | (with_reducible refine x_dput ?_)
  | (with_reducible refine x_bm ?_) | (with_reducible refine x_bm0 ?_) | (with_reducible refine x_pair ?_) | (with_reducible refine x_tri ?_) | (with_reducible refine x_int ?_) | (with_reducible refine x_intb ?_) | (with_reducible refine x_abs ?_) | (with_reducible refine x_isN ?_) | (with_reducible refine x_notN ?_) | (with_reducible refine x_meth ?_) | (with_reducible refine x_make ?_)
  | (with_reducible refine x_ite1 ?_) | (with_reducible refine x_ite0 ?_)
  | (with_reducible refine x_addi ?_) | (with_reducible refine x_neg ?_) | (with_reducible refine x_i0 ?_) | (with_reducible refine x_eqi ?_) | (with_reducible refine x_eqs ?_) | (with_reducible refine x_eqb ?_) | (with_reducible refine x_nei ?_) | (with_reducible refine x_lti ?_)
  | (with_reducible refine x_forL ?_) | (with_reducible refine x_forT ?_) | (with_reducible refine x_forR ?_) | (with_reducible refine x_forR2 ?_) | (with_reducible refine x_lcL ?_) | (with_reducible refine x_lcT ?_) | (with_reducible refine x_lcR ?_)
  | (with_reducible refine x_yes ?_) | (with_reducible refine x_pcons ?_) | (with_reducible refine x_pnil ?_) | (with_reducible refine x_gcons ?_) | (with_reducible refine x_gnil ?_) | (with_reducible refine x_gattr ?_) | (with_reducible refine x_raise ?_) | (with_reducible refine x_gsub ?_) | (with_reducible refine x_fldaug ?_) | (with_reducible refine x_radd ?_) | (with_reducible refine x_ipi ?_) | ((with_reducible refine x_aug (x := ?vv) ?hh ?qq); (case hh => exact rfl))
  | ((with_reducible refine x_iteA ?hc ?q); (case hc => exact rfl)) | ((with_reducible refine x_iteB ?hc ?q); (case hc => exact rfl))
  | ((with_reducible refine x_var (v := ?vv) ?hh ?qq); (case hh => exact rfl))
  | ((with_reducible refine r_isInt (d := ?dd) ?hh ?qq); (case hh => assumption)) | ((with_reducible refine r_isBool (d := ?dd) ?hh ?qq); (case hh => assumption)) | ((with_reducible refine r_isTup (d := ?dd) ?hh ?qq); (case hh => assumption))
  | ((with_reducible refine r_isStr (d := ?dd) ?hh ?qq); (case hh => assumption)) | ((with_reducible refine r_isLst (d := ?dd) ?hh ?qq); (case hh => assumption))))
local macro_rules | `(tactic| walk_at "y") => `(tactic| (repeat (walk_at "y1")))
theorem putAll_append (t a b : Page) : putAll t (a ++ b) = putAll (putAll t a) b := by unfold putAll; rw [List.foldl_append]
theorem cut_mid {α : Type} (xs : List V) (a c : Nat) (h : c ≤ xs.length) (h' : a ≤ c) : cutV xs (some (a : Int)) (some (c : Int)) = (xs.drop a).take (c - a) := by
  unfold cutV
  rw [HT.sIx_nat, HT.sIx_nat, Nat.min_eq_left h, Nat.min_eq_left (by omega)]
section
variable {P : Program} {w : World} {K : PySem.W.Frag} {mg : Str → Option Value} {base : Heap}
abbrev s_over : Stmt := top 35
abbrev nms_over : List Str := ["page", "row", "pairs", "key", "value"]
theorem sc_over : FnScope nms_over ["page", "row"] (defScope s_over) := ⟨rfl, rfl, rfl, by decide +kernel, rfl, by decide +kernel, by decide +kernel⟩
theorem ok_over {f : Addr} {fd : FuncData} (F : Fun K "_law_over" "_law_over" s_over f fd) (hm : mg "_law_over" = some (.ref f)) (b : Binds K fd ["page", "row"] []) (T : Bt mg) : Cal P w K mg base 1 "_law_over" (spOver K) := by
  refine cal_of F hm b sc_over (fun vs H Q E h => ?_) (fun cdv A outer s H vs Q E hr h => ?_)
  · obtain ⟨x, y, p, r, rfl, _⟩ := h
    rfl
  · obtain ⟨x, y, p, r, rfl, wx, wy, hp, hr2, q⟩ := h
    have hu64 := pass_hu64 hr
    have hu1 : (A.deeper (PyProof.Rows.envOfC "_law_over" (defScope s_over) s.heap.objs.size f cdv)).units + 1 < cLine := by have := hr.un; omega
    have hu := hu64
    refine ⟨_, (pss_cons (ps_set (i := 2) sc_over.nd rfl (by first | exact Or.inl rfl | exact Or.inr rfl) pe_dnewT)
    (pss_cons (ps_for (passes_of rfl) rfl (pi_list (pe_op (oAddK K) (pe_callTy cList (by rfl) T.list (by decide +kernel) (pa_cons (pv 0) pa_nil)) (pe_callTy cList (by rfl) T.list (by decide +kernel) (pa_cons (pv 1) pa_nil)))) (pg_tup (n := 2) rfl (pgs_cons (pg_name (i := 3) sc_over.nd rfl (by first | exact Or.inl rfl | exact Or.inr rfl)) (pgs_cons (pg_name (i := 4) sc_over.nd rfl (by first | exact Or.inl rfl | exact Or.inr rfl)) pgs_nil)))
    (pss_one (ps_dput hu1 (pv 2) (pv 3) (pv 4) rfl)))
    (pss_one (ps_ret (pe_callTy cTuple (by rfl) T.tuple (by decide +kernel) (pa_cons (pe_lc (own := [("key", 3)]) rfl sc_over.nd (pi_list (pe_callB (call_sortK rfl hu) (by rfl) T.sorted (by decide +kernel) (pa_cons (pv 2) pa_nil))) (blkOk_by (N := nms_over) (sc := defScope s_over) (by decide +kernel)) (fun _ _ _ _ _ => (pg_name (i := 3) sc_over.nd rfl (by first | exact Or.inl rfl | exact Or.inr rfl))) (fun _ _ _ _ _ => pts_nil) (fun _ _ _ _ _ => (pe_tup (pa_cons (pv 3) (pa_cons (pe_dget hu1 (pv 2) (pv 3) (fun _ _ => rfl)) pa_nil))))) pa_nil)))))), ?_⟩
    try dsimp only [cxOf]
    refine x_seq (x_asg fun D nD => ?_)
    have e1 : Ex H (upd H D (.dT [])) := Ex.new nD
    have hD1 : TabAt K D [] (upd H D (.dT [])) := ⟨[], upd_same, .nil⟩
    revert e1 hD1
    generalize upd H D (.dT []) = H1
    intro e1 hD1
    have wx1 := wx.ex e1
    have wy1 := wy.ex e1
    cases wx1 with
    | @tup a xs _ ea wa =>
    cases wy1 with
    | @tup b ys _ eb wb =>
    walk_at "y"
    refine x_lstt ea fun p2 H2 e2 n2 h2 => ?_
    walk_at "y"
    refine x_lstt (e2 _ _ eb) fun p3 H3 e3 n3 h3 => ?_
    have lx : xs.length = p.length := by rw [wa.len, List.length_map]
    have ly : ys.length = r.length := by rw [wb.len, List.length_map]
    have lp := hp.len
    have lr := hr2.len
    refine x_addl (e3 _ _ h2) h3 (by omega) fun p4 H4 e4 n4 h4 => ?_
    have e14 := e2.trans (e3.trans e4)
    have wab : WtL K H4 (xs ++ ys) ((p ++ r).map pairD) := by
      rw [List.map_append]
      exact (wa.ex e14).append (wb.ex e14)
    have hD4 : TabAt K D [] H4 := by
      obtain ⟨kvs, e, kv⟩ := hD1
      exact ⟨kvs, e14 _ _ e, kv.go (S := []) e14.go (by simp)⟩
    have ks : ∀ kv ∈ p ++ r, kv.1 ∈ uni := fun kv m => (List.mem_append.mp m).elim (hp.ks kv) (hr2.ks kv)
    have vs : ∀ kv ∈ p ++ r, valOk kv.2 = true := fun kv m => (List.mem_append.mp m).elim (hp.vs kv) (hr2.vs kv)
    have tok : ∀ i, TabOk (putAll [] ((p ++ r).take i)) := fun i => TabOk.nil.putAll (fun kv m => ks kv (List.mem_of_mem_take m)) fun kv m => vs kv (List.mem_of_mem_take m)
    have n4D : p4 ≠ D := fun z => by
      obtain ⟨kvs, e, _⟩ := hD1
      have := (e2.trans e3) _ _ e
      rw [← z, n4] at this
      cases this
    have E4 : Ex H H4 := e1.trans e14
    refine y_forL (fun i σ H' => Ex H H' ∧ H' p4 = some (.lst (xs ++ ys)) ∧ WtL K H' (xs ++ ys) ((p ++ r).map pairD) ∧ ∃ (o o2 : Option V), σ = [some (.ref a), some (.ref b), some (.ref D), o, o2] ∧ TabAt K D (putAll [] ((p ++ r).take i)) H') h4 ⟨E4, h4, wab, _, _, rfl, hD4⟩ (fun i σ H' p => p.2.1) (fun i x σ H5 hx q5 => ?_) fun σ H5 q5 => ?_
    · obtain ⟨e5, h5, w5, o, o2, rfl, hT⟩ := q5
      obtain ⟨kv, hkv, wx⟩ := pair_at w5 hx
      have hm := List.mem_of_getElem? hkv
      unfold pairD at wx
      cases wx with
      | @tup a6 zs _ ea6 wa6 =>
      cases wa6 with
      | @cons u0 _ _ _ wu0 wa6 =>
      cases wa6 with
      | @cons u1 _ _ _ wu1 wa6 =>
      cases wa6
      refine x_gtup ea6 rfl ?_
      walk_at "y"
      refine x_kdputT hT (tok i) wu0 (ks kv hm) wu1 (vs kv hm) fun H6 g6 h6 => ?_
      have wto : tupOnlyL ((p ++ r).map pairD) = true := tupOnlyL_iff.mpr fun d hd => by
        obtain ⟨z, hz, rfl⟩ := List.mem_map.mp hd
        exact pairD_to (vs z hz)
      refine ⟨ex_of_go e5 nD g6, g6.keep p4 _ (by simp [n4D]) h5, w5.go g6 wto, _, _, rfl, ?_⟩
      rw [take_snoc hkv, putAll_snoc]
      exact h6
    · obtain ⟨e5, h5, w5, o, o2, rfl, hT⟩ := q5
      have hl : (xs ++ ys).length = (p ++ r).length := by rw [List.length_append, List.length_append, lx, ly]
      rw [hl, List.take_length] at hT
      have tk := tok (p ++ r).length
      rw [List.take_length] at tk
      show tRows K 3 2 _ H5 Q
      exact x_rows hT tk rfl (fun _ => rfl) (fun _ => rfl) (fun _ => rfl) fun v H6 e6 w6 => q v _ (e5.trans e6) (by rw [putAll_append] at w6; exact w6)
/-! ### half -/
def spHalfL (K : PySem.W.Frag) : Sp := fun vs H Q _ => ∃ l xs S half M r, vs = [.ref l, .int ((half : Nat) : Int)] ∧ H l = some (.lst xs) ∧ WtL K H xs (S.map slD) ∧ S.length = 2 * M ∧ half ≤ 1 ∧ 2 ≤ M ∧ M ≤ 32 ∧ (∀ s ∈ S, SlotOk s) ∧ RH S M (half * M) r ∧ ∀ u H', Ex H H' → Wt K H' u (rhD half r) → Q u H'
abbrev s_half : Stmt := top 36
abbrev nms_half : List Str := ["slots", "half", "size", "row", "page", "last", "k"]
theorem sc_half : FnScope nms_half ["slots", "half"] (defScope s_half) := ⟨rfl, rfl, rfl, by decide +kernel, rfl, by decide +kernel, by decide +kernel⟩
theorem ok_half {f : Addr} {fd : FuncData} (F : Fun K "_law_half" "_law_half" s_half f fd) (hm : mg "_law_half" = some (.ref f)) (b : Binds K fd ["slots", "half"] []) (T : Bt mg) (c_over : Cal P w K mg base 1 "_law_over" (spOver K)) : Cal P w K mg base 2 "_law_half" (spHalfL K) := by
  refine cal_of F hm b sc_half (fun vs H Q E h => ?_) (fun cdv A outer s H vs Q E hr h => ?_)
  · obtain ⟨l, xs, S, half, M, r, rfl, _⟩ := h
    rfl
  · obtain ⟨l, xs, S, half, M, r, rfl, hl, hv, hS, hh, m1, m2, so, rh, q⟩ := h
    have hu64 := pass_hu64 hr
    refine ⟨_, (pss_cons (ps_set (i := 2) sc_half.nd rfl (by first | exact Or.inl rfl | exact Or.inr rfl) (pe_op op_fdivN (pe_callB cLen (by rfl) T.len (by decide +kernel) (pa_cons (pv 0) pa_nil)) pe_int))
    (pss_cons (ps_set (i := 3) sc_half.nd rfl (by first | exact Or.inl rfl | exact Or.inr rfl) (pe_slice (oSlK K) (pv 0) (po_some (pe_op oMul (pv 1) (pv 2))) (po_some (pe_op (oAddK K) (pe_op oMul (pv 1) (pv 2)) (pv 2)))))
    (pss_cons (ps_if (PW.pt (pw_or (pt_cmpR (oEqK K hu64) (pe_ix (oIxK K) (pv 3) pe_int (fun _ _ => rfl)) (pe_tup pa_nil) (nomark _)) (pw_or1 (pt_cmpR (oNeK K hu64) (pe_ix (oIxK K) (pe_ix (oIxK K) (pv 3) pe_int (fun _ _ => rfl)) pe_int (fun _ _ => rfl)) pe_int (nomark _)))))
    (pss_one (ps_ret pe_non))
    pss_nil)
    (pss_cons (ps_par rfl sc_half.nd (i := 4) (j := 5) rfl rfl (by decide) rfl rfl (pa_cons (pe_ix (oIxK K) (pe_ix (oIxK K) (pv 3) pe_int (fun _ _ => rfl)) pe_int (fun _ _ => rfl)) (pa_cons pe_int pa_nil)) (by rfl))
    (pss_cons (ps_for (passes_of rfl) rfl (pi_range2 (by rfl) T.range (pa_cons pe_int (pa_cons (pv 2) pa_nil))) (pg_name (i := 6) sc_half.nd rfl (by first | exact Or.inl rfl | exact Or.inr rfl))
    (pss_cons (ps_if (PW.pt (pw_or (pt_cmpR (oEqK K hu64) (pe_ix (oIxK K) (pv 3) (pv 6) (fun _ _ => rfl)) (pe_tup pa_nil) (nomark _)) (pw_or (pt_cmpR (oNeK K hu64) (pe_ix (oIxK K) (pe_ix (oIxK K) (pv 3) (pv 6) (fun _ _ => rfl)) pe_int (fun _ _ => rfl)) (pe_ix (oIxK K) (pe_ix (oIxK K) (pv 3) pe_int (fun _ _ => rfl)) pe_int (fun _ _ => rfl)) (nomark _)) (pw_or (pt_cmpR (oNeK K hu64) (pe_ix (oIxK K) (pe_ix (oIxK K) (pv 3) (pv 6) (fun _ _ => rfl)) pe_int (fun _ _ => rfl)) (pv 6) (nomark _)) (pw_or1 (pt_cmpR (oLtK K hu64) (pe_ix (oIxK K) (pe_ix (oIxK K) (pv 3) (pv 6) (fun _ _ => rfl)) pe_int (fun _ _ => rfl)) (pe_ix (oIxK K) (pe_ix (oIxK K) (pv 3) (pe_op op_sub (pv 6) pe_int) (fun _ _ => rfl)) pe_int (fun _ _ => rfl)) (nomark _)))))))
    (pss_one (ps_ret (pe_tup (pa_cons (pe_ix (oIxK K) (pe_ix (oIxK K) (pv 3) pe_int (fun _ _ => rfl)) pe_int (fun _ _ => rfl)) (pa_cons (pv 1) (pa_cons (pv 5) (pa_cons (pv 4) pa_nil)))))))
    pss_nil)
    (pss_one (ps_par rfl sc_half.nd (i := 4) (j := 5) rfl rfl (by decide) rfl rfl (pa_cons (pe_c c_over hr (by decide) (by rfl) (pa_cons (pv 4) (pa_cons (pe_ix (oIxK K) (pe_ix (oIxK K) (pv 3) (pv 6) (fun _ _ => rfl)) pe_int (fun _ _ => rfl)) pa_nil))) (pa_cons (pv 6) pa_nil)) (by rfl)))))
    (pss_one (ps_ret (pe_tup (pa_cons (pe_ix (oIxK K) (pe_ix (oIxK K) (pv 3) pe_int (fun _ _ => rfl)) pe_int (fun _ _ => rfl)) (pa_cons (pv 1) (pa_cons (pv 5) (pa_cons (pv 4) pa_nil)))))))))))), ?_⟩
    try dsimp only [cxOf]
    have hx : xs.length = 2 * M := by rw [hv.len, List.length_map, hS]
    walk_at "y"
    refine x_lenl hl ?_
    walk_at "y"
    refine x_iC (cdiv2 _) ?_
    rw [hx, fdiv2, show 2 * M / 2 = M by omega]
    walk_at "y"
    refine x_muli (cmulR _ (by omega)) ?_
    walk_at "y"
    refine x_muli (cmulR _ (by omega)) ?_
    walk_at "y"
    rw [show ((half : Int) * (M : Int)) = ((half * M : Nat) : Int) from by push_cast; rfl, show (((half * M : Nat) : Int) + (M : Int)) = ((half * M + M : Nat) : Int) from by push_cast; rfl]
    have hbM : half * M + M ≤ 2 * M := by
      have : half * M ≤ 1 * M := Nat.mul_le_mul_right _ hh
      omega
    generalize hbb : half * M = bb at *
    refine x_sll hl fun p1 H1 e1 n1 h1 => ?_
    rw [cut_mid (α := V) _ _ _ (by omega) (by omega), show bb + M - bb = M by omega] at h1
    have ats : ∀ i, i < M → ∃ s x, S[bb + i]? = some s ∧ ((xs.drop bb).take M)[i]? = some x ∧ Wt K H x (slD s) ∧ SlotOk s := fun i hi => by
      obtain ⟨s, hs⟩ : ∃ s, S[bb + i]? = some s := ⟨_, List.getElem?_eq_getElem (by omega)⟩
      obtain ⟨x, hx1, hx2⟩ := hv.getD (slot_at hs)
      refine ⟨s, x, hs, ?_, hx2, so s (List.mem_of_getElem? hs)⟩
      rw [List.getElem?_take_of_lt hi, List.getElem?_drop]
      exact hx1
    obtain ⟨s0, x0, hs0, hx0, wx0, sok⟩ := ats 0 (by omega)
    rw [Nat.add_zero] at hs0
    walk_at "y"
    refine x_ixl h1 (n := 0) rfl hx0 ?_
    walk_at "y"
    refine x_mkt (K := K) .nil fun u2 H2 e2 w2 => ?_
    have E2 := e1.trans e2
    refine x_eqd (wx0.ex E2) w2 (lay_slot sok).shaped rfl ?_
    have h2 := e2 _ _ h1
    cases s0 with
    | none =>
      rw [show PyData.eqv (slD none) (.tuple []) = true from rfl]
      walk_at "y"
      have hr0 : r = none := by
        cases rh with
        | none => rfl
        | some h =>
          obtain ⟨es, pg, h, _⟩ := h
          have := h.at_ 0 (Nat.zero_le _)
          rw [Nat.add_zero, hs0] at this
          cases this
      subst hr0
      exact q _ _ E2 .non
    | some e0 =>
      rw [show PyData.eqv (slD (some e0)) (.tuple []) = false from rfl]
      walk_at "y"
      refine x_ixl h2 (n := 0) rfl hx0 ?_
      walk_at "y"
      have whd2 : Wt K H2 x0 (entD e0) := wx0.ex E2
      refine x_ixd (n := 2) (d := .int (e0.n : Int)) whd2 rfl rfl fun u3 wu3 => ?_
      cases wu3
      walk_at "y"
      cases rh with
      | none hh0 =>
        have hn0 := hh0 e0 hs0
        rw [show decide ((e0.n : Int) = 0) = false from decide_eq_false (by omega)]
        walk_at "y"
        exact q _ _ E2 .non
      | @some g last page rd =>
        obtain ⟨es, pg, rd, hpg⟩ := rd
        have h0 := rd.at_ 0 (Nat.zero_le _)
        rw [Nat.add_zero, hs0] at h0
        cases h0
        have hlt := rd.lt
        rw [show decide (((es 0).n : Int) = 0) = true from decide_eq_true (by rw [rd.hn 0 (Nat.zero_le _)]; rfl)]
        walk_at "y"
        refine x_ixl h2 (n := 0) rfl hx0 ?_
        walk_at "y"
        refine x_ixd (n := 3) (d := pageD (es 0).p) whd2 rfl rfl fun u4 wu4 => ?_
        walk_at "y"
        have hok : ∀ i, i ≤ last → PageOk (pg i) := rd.page so
        -- the end
        have fin : ∀ (σ : L2.St) (i : Nat) pv H3, Ex H2 H3 → i = last → Wt K H3 pv (pageD (pg i)) → σ[3]? = some (some (.ref p1)) → σ[1]? = some (some (.int (half : Int))) → σ[5]? = some (some (.int (i : Int))) → σ[4]? = some (some pv) →
            rIxU K (.ref p1) (.int 0) H3 fun x H1 => tC (.int 0) σ H1 fun y H2 => rIxU K x y H2 fun x H1 => tCons (tVar 1) (tCons (tVar 5) (tCons (tVar 4) tNil)) σ H1 fun xs H2 => mkT (x :: xs) H2 Q := fun σ i pv H3 e3 hil wp z1 z2 z3 z4 => by
          subst hil
          refine x_ixl (e3 _ _ h2) (n := 0) rfl hx0 ?_
          refine x_c (x_ixd (n := 0) (d := .int ((es 0).g : Int)) (whd2.ex e3) rfl rfl fun u4 wu4 => ?_)
          cases wu4
          refine x_cons (x_var z2 (x_cons (x_var z3 (x_cons (x_var z4 (x_nil ?_))))))
          refine x_mkt (.cons (.int _) (.cons (.int _) (.cons (.int _) (.cons wp .nil)))) fun u5 H5 e5 w5 => ?_
          rw [rd.hg 0 (Nat.zero_le _), hpg] at w5
          exact q u5 H5 (E2.trans (e3.trans e5)) w5
        refine y_forR2 1 (M - 1) (fun j σ H' => Ex H2 H' ∧ ∃ (pv : V) (ok2 : Option V), j ≤ last ∧ σ = [some (.ref l), some (.int (half : Int)), some (.int (M : Int)), some (.ref p1), some pv, some (.int (j : Int)), ok2] ∧ Wt K H' pv (pageD (pg j))) (by omega) (by omega) ⟨Ex.refl _, u4, _, Nat.zero_le _, rfl, by rw [rd.p0]; exact wu4⟩ (fun j σ H3 hj p => ?_) fun σ H3 p => ?_
        · obtain ⟨e3, pv, ok2, hjl, rfl, wp⟩ := p
          obtain ⟨s1, x1, hs1, hx1, wx1, sok1⟩ := ats (1 + j) (by omega)
          obtain ⟨sa, xa, hsa, hxa, wxa, soka⟩ := ats j (by omega)
          rw [rd.at_ j hjl] at hsa
          cases hsa
          have h3 := e3 _ _ h2
          have E3 := E2.trans e3
          walk_at "y"
          refine x_ixl h3 (n := 1 + j) (by omega) hx1 ?_
          walk_at "y"
          refine x_mkt (K := K) .nil fun u6 H6 e6 w6 => ?_
          have h6 := e6 _ _ h3
          have E6 := E3.trans e6
          refine x_eqd (wx1.ex E6) w6 (lay_slot sok1).shaped rfl ?_
          have stop : (∀ e, s1 = some e → ¬ (e.g = g ∧ e.n = j + 1 ∧ (es j).l ≤ e.l)) → j = last := fun hno => by
            rcases Nat.lt_or_eq_of_le hjl with hlt2 | h
            · have h1 := rd.at_ (j + 1) hlt2
              rw [show bb + (j + 1) = bb + (1 + j) by omega, hs1] at h1
              cases h1
              exact absurd ⟨rd.hg _ hlt2, rd.hn _ hlt2, rd.hl j hlt2⟩ (hno _ rfl)
            · exact h
          cases s1 with
          | none =>
            rw [show PyData.eqv (slD none) (.tuple []) = true from rfl]
            walk_at "y"
            exact fin _ j pv H6 (e3.trans e6) (stop (fun _ z => by cases z)) (wp.ex e6) rfl rfl rfl rfl
          | some e =>
            rw [show PyData.eqv (slD (some e)) (.tuple []) = false from rfl]
            have we6 : Wt K H6 x1 (entD e) := wx1.ex E6
            have wa6 : Wt K H6 xa (entD (es j)) := wxa.ex E6
            walk_at "y"
            refine x_ixl h6 (n := 1 + j) (by omega) hx1 ?_
            walk_at "y"
            refine x_ixd (n := 0) (d := .int (e.g : Int)) we6 rfl rfl fun u7 w7 => ?_
            cases w7
            walk_at "y"
            refine x_ixl h6 (n := 0) rfl hx0 ?_
            walk_at "y"
            refine x_ixd (n := 0) (d := .int ((es 0).g : Int)) (whd2.ex (e3.trans e6)) rfl rfl fun u8 w8 => ?_
            cases w8
            walk_at "y"
            rw [rd.hg 0 (Nat.zero_le _)]
            by_cases c1 : e.g = g
            · rw [show decide ((e.g : Int) = g) = true from decide_eq_true (by omega)]
              walk_at "y"
              refine x_ixl h6 (n := 1 + j) (by omega) hx1 ?_
              walk_at "y"
              refine x_ixd (n := 2) (d := .int (e.n : Int)) we6 rfl rfl fun u9 w9 => ?_
              cases w9
              walk_at "y"
              by_cases c2 : e.n = j + 1
              · rw [show decide ((e.n : Int) = ((1 + j : Nat) : Int)) = true from decide_eq_true (by omega)]
                walk_at "y"
                refine x_ixl h6 (n := 1 + j) (by omega) hx1 ?_
                walk_at "y"
                refine x_ixd (n := 1) (d := .int (e.l : Int)) we6 rfl rfl fun u10 w10 => ?_
                cases w10
                walk_at "y"
                try refine x_i0 ?_
                try dsimp only
                refine x_ixl h6 (i := ((1 + j : Nat) : Int) - 1) (n := j) (by omega) hxa ?_
                walk_at "y"
                refine x_ixd (n := 1) (d := .int ((es j).l : Int)) wa6 rfl rfl fun u11 w11 => ?_
                cases w11
                refine .inl ?_
                walk_at "y"
                by_cases c3 : (es j).l ≤ e.l
                · rw [show decide ((e.l : Int) < (es j).l) = false from decide_eq_false (by omega)]
                  have hil : j < last := by
                    rcases Nat.lt_or_eq_of_le hjl with h | h
                    · exact h
                    · subst h
                      exact absurd ⟨c1, c2, c3⟩ (rd.stop (by omega) e (by rw [show bb + (j + 1) = bb + (1 + j) by omega]; exact hs1))
                  have he : es (j + 1) = e := by
                    have h1 := rd.at_ (j + 1) hil
                    rw [show bb + (j + 1) = bb + (1 + j) by omega, hs1] at h1
                    cases h1
                    rfl
                  walk_at "y"
                  refine x_ixl h6 (n := 1 + j) (by omega) hx1 ?_
                  walk_at "y"
                  refine x_ixd (n := 3) (d := pageD e.p) we6 rfl rfl fun u12 w12 => ?_
                  walk_at "y"
                  refine ⟨pv, u12, pg j, e.p, rfl, wp.ex e6, w12, hok j hjl, sok1 e rfl, fun u13 H7 e7 w13 => ?_⟩
                  walk_at "y"
                  refine ⟨e3.trans (e6.trans e7), u13, _, hil, by rw [show 1 + j = j + 1 by omega]; rfl, ?_⟩
                  rw [rd.pS j hil, he]
                  exact w13
                · rw [show decide ((e.l : Int) < (es j).l) = true from decide_eq_true (by omega)]
                  walk_at "y"
                  exact fin _ j pv H6 (e3.trans e6) (stop fun e' z h => by cases z; exact c3 h.2.2) (wp.ex e6) rfl rfl rfl rfl
              · rw [show decide ((e.n : Int) = ((1 + j : Nat) : Int)) = false from decide_eq_false (by omega)]
                walk_at "y"
                exact fin _ j pv H6 (e3.trans e6) (stop fun e' z h => by cases z; exact c2 h.2.1) (wp.ex e6) rfl rfl rfl rfl
            · rw [show decide ((e.g : Int) = g) = false from decide_eq_false (by omega)]
              walk_at "y"
              exact fin _ j pv H6 (e3.trans e6) (stop fun e' z h => by cases z; exact c1 h.1) (wp.ex e6) rfl rfl rfl rfl
        · obtain ⟨e3, pv, ok2, hjl, rfl, wp⟩ := p
          walk_at "y"
          exact fin _ (M - 1) pv H3 e3 (by omega) wp rfl rfl rfl rfl
end
end Y
/-! part C4 -/
/-! The law's own disk and book. -/
namespace Y
open PySem L2
local macro_rules | `(tactic| walk_at "y1") => `(tactic| (first
  | (with_reducible refine x_seq ?_) | (with_reducible refine x_asg ?_) | (with_reducible refine x_name ?_) | (with_reducible refine x_drop ?_) | (with_reducible refine x_ret ?_) | (with_reducible refine x_retN ?_)
  | (with_reducible refine x_next ?_) | (with_reducible refine x_brk ?_) | (with_reducible refine x_ifS ?_)
  | (with_reducible refine x_c ?_) | (with_reducible refine x_op ?_) | (with_reducible refine x_un ?_) | (with_reducible refine x_cb ?_) | (with_reducible refine x_cons ?_) | (with_reducible refine x_nil ?_)
  | (with_reducible refine x_call ?_) | (with_reducible refine x_tup ?_) | (with_reducible refine x_lst ?_) | (with_reducible refine x_sl ?_) | (with_reducible refine x_nopart ?_) | (with_reducible refine x_part ?_)
  | (with_reducible refine x_andV ?_) | (with_reducible refine x_orV ?_) | (with_reducible refine x_notV ?_) | (with_reducible refine x_if ?_) | (with_reducible refine x_test ?_) | (with_reducible refine x_tb ?_)
  | (with_reducible refine x_and ?_) | (with_reducible refine x_or ?_) | (with_reducible refine x_not ?_) | (with_reducible refine x_chain ?_) | (with_reducible refine x_exbl ?_) | (with_reducible refine x_exint ?_)
  | (with_reducible refine x_fld ?_) | (with_reducible refine x_sfld ?_) | (with_reducible refine x_par ?_) | (with_reducible refine x_par3 ?_) | (with_reducible refine x_dget ?_) | (with_reducible refine x_dput ?_)
  | (with_reducible refine x_bm ?_) | (with_reducible refine x_bm0 ?_) | (with_reducible refine x_pair ?_) | (with_reducible refine x_tri ?_) | (with_reducible refine x_int ?_) | (with_reducible refine x_intb ?_) | (with_reducible refine x_abs ?_) | (with_reducible refine x_isN ?_) | (with_reducible refine x_notN ?_) | (with_reducible refine x_meth ?_) | (with_reducible refine x_make ?_)
  | (with_reducible refine x_ite1 ?_) | (with_reducible refine x_ite0 ?_)
  | (with_reducible refine x_addi ?_) | (with_reducible refine x_neg ?_) | (with_reducible refine x_i0 ?_) | (with_reducible refine x_eqi ?_) | (with_reducible refine x_eqs ?_) | (with_reducible refine x_eqb ?_) | (with_reducible refine x_nei ?_) | (with_reducible refine x_lti ?_)
  | (with_reducible refine x_forL ?_) | (with_reducible refine x_forT ?_) | (with_reducible refine x_forR ?_) | (with_reducible refine x_forR2 ?_) | (with_reducible refine x_lcL ?_) | (with_reducible refine x_lcT ?_) | (with_reducible refine x_lcR ?_)
  | (with_reducible refine x_yes ?_) | (with_reducible refine x_pcons ?_) | (with_reducible refine x_pnil ?_) | (with_reducible refine x_gcons ?_) | (with_reducible refine x_gnil ?_) | (with_reducible refine x_gattr ?_) | (with_reducible refine x_raise ?_) | (with_reducible refine x_gsub ?_) | (with_reducible refine x_fldaug ?_) | (with_reducible refine x_radd ?_) | (with_reducible refine x_ipi ?_) | ((with_reducible refine x_aug (x := ?vv) ?hh ?qq); (case hh => exact rfl))
  | ((with_reducible refine x_iteA ?hc ?q); (case hc => exact rfl)) | ((with_reducible refine x_iteB ?hc ?q); (case hc => exact rfl))
  | ((with_reducible refine x_var (v := ?vv) ?hh ?qq); (case hh => exact rfl))
  | ((with_reducible refine r_isInt (d := ?dd) ?hh ?qq); (case hh => assumption)) | ((with_reducible refine r_isBool (d := ?dd) ?hh ?qq); (case hh => assumption)) | ((with_reducible refine r_isTup (d := ?dd) ?hh ?qq); (case hh => assumption))
  | ((with_reducible refine r_isStr (d := ?dd) ?hh ?qq); (case hh => assumption)) | ((with_reducible refine r_isLst (d := ?dd) ?hh ?qq); (case hh => assumption))))
local macro_rules | `(tactic| walk_at "y") => `(tactic| (repeat (walk_at "y1")))
section
variable {P : Program} {w : World} {K : PySem.W.Frag} {mg : Str → Option Value} {base : Heap}
def spReadL (K : PySem.W.Frag) : Sp := fun vs H Q _ => ∃ l xs S M r0 r1, vs = [.ref l] ∧ H l = some (.lst xs) ∧ WtL K H xs (S.map slD) ∧ S.length = 2 * M ∧ 2 ≤ M ∧ M ≤ 32 ∧ (∀ s ∈ S, SlotOk s) ∧ RH S M 0 r0 ∧ RH S M M r1 ∧ ∀ u H', Ex H H' → Wt K H' u (foundD (pickH r0 r1)) → Q u H'
abbrev s_read : Stmt := top 37
abbrev nms_read : List Str := ["slots", "one", "other"]
theorem sc_read : FnScope nms_read ["slots"] (defScope s_read) := ⟨rfl, rfl, rfl, by decide +kernel, rfl, by decide +kernel, by decide +kernel⟩
theorem ok_read {f : Addr} {fd : FuncData} (F : Fun K "_law_read" "_law_read" s_read f fd) (hm : mg "_law_read" = some (.ref f)) (b : Binds K fd ["slots"] []) (T : Bt mg) (c_half : Cal P w K mg base 2 "_law_half" (spHalfL K)) : Cal P w K mg base 3 "_law_read" (spReadL K) := by
  refine cal_of F hm b sc_read (fun vs H Q E h => ?_) (fun cdv A outer s H vs Q E hr h => ?_)
  · obtain ⟨v, xs, S, M, r0, r1, rfl, _⟩ := h
    rfl
  · obtain ⟨l, xs, S, M, r0, r1, rfl, hl, hv, hS, m1, m2, so, h0, h1, q⟩ := h
    have hu64 := pass_hu64 hr
    refine ⟨_, (pss_cons (ps_par rfl sc_read.nd (i := 1) (j := 2) rfl rfl (by decide) rfl rfl (pa_cons (pe_c c_half hr (by decide) (by rfl) (pa_cons (pv 0) (pa_cons pe_int pa_nil))) (pa_cons (pe_c c_half hr (by decide) (by rfl) (pa_cons (pv 0) (pa_cons pe_int pa_nil))) pa_nil)) (by rfl))
    (pss_cons (ps_if (PW.pt (pw_or (pt_cmpR op_isN1 (pv 1) pe_non (nomark _)) (pw_or1 (PW.pt (pw_and (pt_cmpR op_notN1 (pv 2) pe_non (nomark _)) (pw_and1 (pt_cmpR op_gt (pe_ix (oIxK K) (pv 2) pe_int (fun _ _ => rfl)) (pe_ix (oIxK K) (pv 1) pe_int (fun _ _ => rfl)) (nomark _))))))))
    (pss_one (ps_ret (pv 2)))
    pss_nil)
    (pss_one (ps_ret (pv 1))))), ?_⟩
    try dsimp only [cxOf]
    have tS : tupOnlyL (S.map slD) = true := (lay_slots so).to
    walk_at "y"
    refine ⟨l, xs, S, 0, M, r0, rfl, hl, hv, hS, by omega, m1, m2, so, by rw [Nat.zero_mul]; exact h0, fun u0 H1 e1 w0 => ?_⟩
    walk_at "y"
    refine ⟨l, xs, S, 1, M, r1, rfl, e1 _ _ hl, hv.ex e1, hS, by omega, m1, m2, so, by rw [Nat.one_mul]; exact h1, fun u1 H2 e2 w1 => ?_⟩
    have ex2 := e1.trans e2
    have w0 := w0.ex e2
    cases r0 with
    | none =>
      cases w0
      walk_at "y"
      refine q _ _ ex2 ?_
      cases r1 with
      | none => exact w1
      | some r => exact w1
    | some r =>
      obtain ⟨g, l, p⟩ := r
      have w0' := w0
      cases w0' with
      | @tup a0 xs0 _ ea0 wa0 =>
      cases r1 with
      | none =>
        cases w1
        walk_at "y"
        exact q _ _ ex2 w0
      | some r' =>
        obtain ⟨g', l', p'⟩ := r'
        have w1' := w1
        cases w1' with
        | @tup a1 xs1 _ ea1 wa1 =>
        walk_at "y"
        refine x_ixd (n := 0) (d := .int (g' : Int)) w1 rfl rfl fun u9 w9 => ?_
        cases w9
        walk_at "y"
        refine x_ixd (n := 0) (d := .int (g : Int)) w0 rfl rfl fun u8 w8 => ?_
        cases w8
        walk_at "y"
        by_cases c : g < g'
        · rw [show decide ((g' : Int) > g) = true from decide_eq_true (by omega)]
          walk_at "y"
          refine q _ _ ex2 ?_
          unfold pickH
          dsimp only
          rw [if_pos c]
          exact w1
        · rw [show decide ((g' : Int) > g) = false from decide_eq_false (by omega)]
          walk_at "y"
          refine q _ _ ex2 ?_
          unfold pickH
          dsimp only
          rw [if_neg c]
          exact w0
/-! ### the disk as a dict of lists -/
abbrev sK (s : Str) : L2.Key := .inr s
structure LDisk (K : PySem.W.Frag) (dd ls lf lp : Addr) (S F : List Slot) (U : List (Nat × Entry)) (H : Hp) : Prop where
  d : H dd = some (.dK [(sK "slots", .ref ls), (sK "safe", .ref lf), (sK "puts", .ref lp)])
  s : ∃ xs, H ls = some (.lst xs) ∧ WtL K H xs (S.map slD)
  f : ∃ xs, H lf = some (.lst xs) ∧ WtL K H xs (F.map slD)
  p : ∃ xs, H lp = some (.lst xs) ∧ WtL K H xs ((U.map entP).map putD)
  n1 : ls ≠ lf
  n2 : ls ≠ lp
  n3 : lf ≠ lp
theorem DskOk.t1 {S F : List Slot} {U : List (Nat × Entry)} {M : Nat} (h : DskOk S F U M) : tupOnlyL (S.map slD) = true := (lay_slots h.s).to
theorem DskOk.t2 {S F : List Slot} {U : List (Nat × Entry)} {M : Nat} (h : DskOk S F U M) : tupOnlyL (F.map slD) = true := (lay_slots h.f).to
theorem DskOk.t3 {S F : List Slot} {U : List (Nat × Entry)} {M : Nat} (h : DskOk S F U M) : tupOnlyL ((U.map entP).map putD) = true := h.d.tp
theorem LDisk.go {L : List Addr} {dd ls lf lp : Addr} {S F : List Slot} {U : List (Nat × Entry)} {M : Nat} {H H' : Hp} (h : LDisk K dd ls lf lp S F U H) (o : DskOk S F U M) (g : Go L H H') (n : dd ∉ L ∧ ls ∉ L ∧ lf ∉ L ∧ lp ∉ L) : LDisk K dd ls lf lp S F U H' := by
  obtain ⟨xs, e1, w1⟩ := h.s
  obtain ⟨ys, e2, w2⟩ := h.f
  obtain ⟨zs, e3, w3⟩ := h.p
  exact ⟨g.keep _ _ n.1 h.d, ⟨xs, g.keep _ _ n.2.1 e1, w1.go g o.t1⟩, ⟨ys, g.keep _ _ n.2.2.1 e2, w2.go g o.t2⟩, ⟨zs, g.keep _ _ n.2.2.2 e3, w3.go g o.t3⟩, h.n1, h.n2, h.n3⟩
theorem x_kdgetK {D : Addr} {kvs : List (L2.Key × V)} {s : Str} {v : V} {H : Hp} {Q : VK} (h : H D = some (.dK kvs)) (e : valV kvs (.inr s) = some v) (q : Q v H) : kDget (.ref D) (.str s) H Q := ⟨D, v, rfl, e ▸ DGet.k (k := .inr s) h, q⟩
theorem x_kdputK {D : Addr} {kvs gs : List (L2.Key × V)} {s : Str} {v : V} {H : Hp} {q : Hp → Prop} (h : H D = some (.dK kvs)) (l : kvs.length < 1000) (e : putK kvs (.inr s) v = gs) (k : ∀ H', Go [D] H H' → H' D = some (.dK gs) → q H') : kDput (.ref D) (.str s) v H q :=
  ⟨D, _, rfl, DPut.k (k := .inr s) h (Nat.lt_of_lt_of_le l (by decide)), k _ (Go.set h (by intro _ z; cases z)) (by rw [upd_same, e])⟩
theorem x_setD {D : Addr} {kvs gs : List (L2.Key × V)} {s : Str} {v : V} {H : Hp} {q : Hp → Prop} (h : H D = some (.dK kvs)) (l : kvs.length < 1000) (e : putK kvs (.inr s) v = gs) (k : ∀ H', Go [D] H H' → H' D = some (.dK gs) → q H') : rSetD (.ref D) (.str s) v H q :=
  ⟨D, _, rfl, DPut.k (k := .inr s) h (Nat.lt_of_lt_of_le l (by decide)), k _ (Go.set h (by intro _ z; cases z)) (by rw [upd_same, e])⟩
/-! ### put -/
def spPutL (K : PySem.W.Frag) : Sp := fun vs H Q _ => ∃ dd ls lf lp n y e S F U M, vs = [.ref dd, .int ((n : Nat) : Int), y] ∧ LDisk K dd ls lf lp S F U H ∧ DskOk S F U M ∧ n < 2 * M ∧ Wt K H y (entD e) ∧ EntOk e ∧
  ∀ H', Go [ls, lp] H H' → LDisk K dd ls lf lp (S.set n (some e)) F (U ++ [(n, e)]) H' → Q .non H'
abbrev s_put : Stmt := top 39
abbrev nms_put : List Str := ["disk", "slot", "entry", "slots"]
theorem sc_put : FnScope nms_put ["disk", "slot", "entry"] (defScope s_put) := ⟨rfl, rfl, rfl, by decide +kernel, rfl, by decide +kernel, by decide +kernel⟩
theorem ok_putL {f : Addr} {fd : FuncData} (F : Fun K "_law_put" "_law_put" s_put f fd) (hm : mg "_law_put" = some (.ref f)) (b : Binds K fd ["disk", "slot", "entry"] []) (T : Bt mg) : Cal P w K mg base 1 "_law_put" (spPutL K) := by
  refine cal_of F hm b sc_put (fun vs H Q E h => ?_) (fun cdv A outer s H vs Q E hr h => ?_)
  · obtain ⟨dd, ls, lf, lp, n, y, e, S, F, U, M, rfl, _⟩ := h
    rfl
  · obtain ⟨dd, ls, lf, lp, n, y, e, S, F, U, M, rfl, hd, od, hn, wy, he, q⟩ := h
    have hu64 := pass_hu64 hr
    have hu1 : (A.deeper (PyProof.Rows.envOfC "_law_put" (defScope s_put) s.heap.objs.size f cdv)).units + 1 < cLine := by have := hr.un; omega
    refine ⟨_, (pss_cons (ps_set (i := 3) sc_put.nd rfl (by first | exact Or.inl rfl | exact Or.inr rfl) (pe_dget hu1 (pv 0) pe_str (fun _ _ => rfl)))
    (pss_cons (ps_asg (pv 2) (pg_sub (pv 3) (pv 1) set_list))
    (pss_one (ps_expr (pe_bm PySem.F.plainAttrs_list PySem.F.slot_list_append PySem.F.type_list_append mt_append (pe_dget hu1 (pv 0) pe_str (fun _ _ => rfl)) (pa_cons (pe_tup (pa_cons (pv 1) (pa_cons (pv 2) pa_nil))) pa_nil)))))), ?_⟩
    try dsimp only [cxOf]
    obtain ⟨xs, e1, w1⟩ := hd.s
    obtain ⟨ys, e2, w2⟩ := hd.f
    obtain ⟨zs, e3, w3⟩ := hd.p
    have lx : xs.length = 2 * M := by rw [w1.len, List.length_map, od.ls]
    have lz : zs.length ≤ 200 := by rw [w3.len, List.length_map, List.length_map]; exact od.lu
    walk_at "y"
    refine x_kdgetK hd.d rfl ?_
    walk_at "y"
    refine x_setl e1 rfl (by omega) fun H1 g1 h1 => ?_
    have nds : dd ≠ ls := fun z => by have := hd.d; rw [z, e1] at this; cases this
    have ndp : dd ≠ lp := fun z => by have := hd.d; rw [z, e3] at this; cases this
    have hd1 := g1.keep dd _ (by simp [nds]) hd.d
    walk_at "y"
    refine x_kdgetK hd1 rfl ?_
    have hp1 := g1.keep lp _ (by simp [Ne.symm hd.n2]) e3
    refine ⟨x_tyl hp1, ?_⟩
    have tE : tupOnly (entD e) = true := (lay_ent he).to
    have wy1 := wy.go g1 tE
    walk_at "y"
    refine x_mkt (.cons (.int _) (.cons wy1 .nil)) fun u2 H2 ex2 wu2 => ?_
    walk_at "y"
    refine x_append (ex2 _ _ hp1) (by omega) fun H3 g3 h3 => ?_
    walk_at "y"
    have G : Go [ls, lp] H1 H3 := ex2.go.trans (g3.mono (by simp))
    refine q H3 ((g1.mono (by simp)).trans G) ⟨g3.keep dd _ (by simp [ndp]) (ex2 _ _ hd1), ⟨_, g3.keep ls _ (by simp [hd.n2]) (ex2 _ _ h1), ?_⟩, ⟨ys, g3.keep lf _ (by simp [hd.n3]) (ex2 _ _ (g1.keep lf _ (by simp [Ne.symm hd.n1]) e2)), (w2.go g1 od.t2).go G od.t2⟩, ⟨_, h3, ?_⟩, hd.n1, hd.n2, hd.n3⟩
    · rw [List.map_set]
      have tt : tupOnlyL ((S.map slD).set n (entD e)) = true := tupOnlyL_iff.mpr fun x hx => by
        rcases List.mem_or_eq_of_mem_set hx with z | z
        · exact tupOnlyL_iff.mp od.t1 x z
        · rw [z]; exact tE
      exact ((w1.set wy n).go g1 tt).go G tt
    · rw [List.map_append, List.map_append]
      have tt : tupOnlyL ((U.map entP).map putD ++ [putD (entP (n, e))]) = true := tupOnlyL_iff.mpr fun x hx => by
        rcases List.mem_append.mp hx with z | z
        · exact tupOnlyL_iff.mp od.t3 x z
        · rw [List.mem_singleton.mp z]; exact putD_to (p := entP (n, e)) tE
      exact (((w3.go g1 od.t3).ex ex2).append (.cons wu2 .nil)).go g3 tt
/-! ### safe -/
def spSafe (K : PySem.W.Frag) : Sp := fun vs H Q _ => ∃ dd ls lf lp S F U M, vs = [.ref dd] ∧ LDisk K dd ls lf lp S F U H ∧ DskOk S F U M ∧
  ∀ lf' lp' H', Go [dd] H H' → H lf' = none → H lp' = none → LDisk K dd ls lf' lp' S S [] H' → Q .non H'
abbrev s_safe : Stmt := top 40
abbrev nms_safe : List Str := ["disk"]
theorem sc_safe : FnScope nms_safe ["disk"] (defScope s_safe) := ⟨rfl, rfl, rfl, by decide +kernel, rfl, by decide +kernel, by decide +kernel⟩
theorem ok_safe {f : Addr} {fd : FuncData} (F : Fun K "_law_safe" "_law_safe" s_safe f fd) (hm : mg "_law_safe" = some (.ref f)) (b : Binds K fd ["disk"] []) (T : Bt mg) : Cal P w K mg base 1 "_law_safe" (spSafe K) := by
  refine cal_of F hm b sc_safe (fun vs H Q E h => ?_) (fun cdv A outer s H vs Q E hr h => ?_)
  · obtain ⟨dd, ls, lf, lp, S, F, U, M, rfl, _⟩ := h
    rfl
  · obtain ⟨dd, ls, lf, lp, S, F, U, M, rfl, hd, od, q⟩ := h
    have hu64 := pass_hu64 hr
    have hu1 : (A.deeper (PyProof.Rows.envOfC "_law_safe" (defScope s_safe) s.heap.objs.size f cdv)).units + 1 < cLine := by have := hr.un; omega
    refine ⟨_, (pss_one (ps_asg (pe_tup (pa_cons (pe_callTy cList (by rfl) T.list (by decide +kernel) (pa_cons (pe_dget hu1 (pv 0) pe_str (fun _ _ => rfl)) pa_nil)) (pa_cons (pe_lst pa_nil) pa_nil))) (pg_tup (n := 2) rfl (pgs_cons (pg_sub (pv 0) pe_str (set_dict hu1)) (pgs_cons (pg_sub (pv 0) pe_str (set_dict hu1)) pgs_nil))))), ?_⟩
    try dsimp only [cxOf]
    obtain ⟨xs, e1, w1⟩ := hd.s
    walk_at "y"
    refine x_kdgetK hd.d rfl ?_
    walk_at "y"
    refine x_lstl e1 fun p1 H1 x1 n1 h1 => ?_
    walk_at "y"
    refine x_mkl (vs := []) fun p2 H2 x2 n2 h2 => ?_
    walk_at "y"
    refine x_mkr fun p3 H3 x3 n3 h3 => ?_
    walk_at "y"
    refine x_gtup h3 rfl ?_
    have E3 := x1.trans (x2.trans x3)
    walk_at "y"
    refine x_setD (E3 _ _ hd.d) (by simp) rfl fun H4 g4 h4 => ?_
    replace h4 : H4 dd = some (.dK [(sK "slots", .ref ls), (sK "safe", .ref p1), (sK "puts", .ref lp)]) := h4
    walk_at "y"
    refine x_setD h4 (by simp) rfl fun H5 g5 h5 => ?_
    replace h5 : H5 dd = some (.dK [(sK "slots", .ref ls), (sK "safe", .ref p1), (sK "puts", .ref p2)]) := h5
    walk_at "y"
    have G : Go [dd] H3 H5 := g4.trans g5
    have nd : ∀ l zs, H3 l = some (.lst zs) → l ∉ [dd] := fun l zs e z => by
      have := E3 _ _ hd.d
      rw [← List.mem_singleton.mp z, e] at this
      cases this
    have k1 := (x2.trans x3) _ _ h1
    have k2 := x3 _ _ h2
    have ks := E3 _ _ e1
    refine q p1 p2 H5 (E3.go.trans G) n1 (x1.free n2) ⟨h5, ⟨xs, G.keep _ _ (nd _ _ ks) ks, (w1.ex E3).go G od.t1⟩, ⟨xs, G.keep _ _ (nd _ _ k1) k1, (w1.ex E3).go G od.t1⟩, ⟨[], G.keep _ _ (nd _ _ k2) k2, .nil⟩, fun z => ?_, fun z => ?_, fun z => ?_⟩
    · rw [z, n1] at e1; cases e1
    · rw [z] at e1; rw [x1.free n2] at e1; cases e1
    · rw [z, n2] at h1; cases h1
end
end Y
/-! part M2 -/
/-! Plain: a journal on a disk that falls anywhere. -/
namespace Y
open PySem L2
/-! ### every half reads as something -/
theorem rh_run (S : List Slot) (M b g : Nat) (hb : b + M ≤ S.length) : ∀ (k i : Nat) (es : Nat → Entry) (pg : Nat → Page), k + (i + 1) = M → (∀ j, j ≤ i → S[b + j]? = some (some (es j))) → (∀ j, j ≤ i → (es j).g = g) → (∀ j, j ≤ i → (es j).n = j) → (∀ j, j < i → (es j).l ≤ (es (j + 1)).l) → pg 0 = (es 0).p → (∀ j, j < i → pg (j + 1) = over (pg j) (es (j + 1)).p) → ∃ last page, Rd S M b g last page
  | 0, i, es, pg, hk, h1, h2, h3, h4, h5, h6 => ⟨i, pg i, es, pg, ⟨h1, h2, h3, h4, h5, h6, by omega, fun h => by omega⟩, rfl⟩
  | k + 1, i, es, pg, hk, h1, h2, h3, h4, h5, h6 => by
    by_cases c : ∃ e, S[b + (i + 1)]? = some (some e) ∧ e.g = g ∧ e.n = i + 1 ∧ (es i).l ≤ e.l
    · obtain ⟨e, c1, c2, c3, c4⟩ := c
      let es' : Nat → Entry := fun j => if j = i + 1 then e else es j
      let pg' : Nat → Page := fun j => if j = i + 1 then over (pg i) e.p else pg j
      have le : ∀ j, j ≤ i → es' j = es j := fun j hj => if_neg (by omega)
      have lp : ∀ j, j ≤ i → pg' j = pg j := fun j hj => if_neg (by omega)
      have ei : es' (i + 1) = e := if_pos rfl
      have pi : pg' (i + 1) = over (pg i) e.p := if_pos rfl
      refine rh_run S M b g hb k (i + 1) es' pg' (by omega) (fun j hj => ?_) (fun j hj => ?_) (fun j hj => ?_) (fun j hj => ?_) ?_ (fun j hj => ?_)
      · by_cases z : j = i + 1
        · subst z; rw [ei]; exact c1
        · rw [le j (by omega)]; exact h1 j (by omega)
      · by_cases z : j = i + 1
        · subst z; rw [ei]; exact c2
        · rw [le j (by omega)]; exact h2 j (by omega)
      · by_cases z : j = i + 1
        · subst z; rw [ei]; exact c3
        · rw [le j (by omega)]; exact h3 j (by omega)
      · by_cases z : j = i
        · subst z; rw [ei, le j (Nat.le_refl _)]; exact c4
        · rw [le j (by omega), le (j + 1) (by omega)]; exact h4 j (by omega)
      · rw [lp 0 (by omega), le 0 (by omega)]; exact h5
      · by_cases z : j = i
        · subst z; rw [ei, pi, lp j (Nat.le_refl _)]
        · rw [lp j (by omega), lp (j + 1) (by omega), le (j + 1) (by omega)]; exact h6 j (by omega)
    · exact ⟨i, pg i, es, pg, ⟨h1, h2, h3, h4, h5, h6, by omega, fun _ e he z => c ⟨e, he, z⟩⟩, rfl⟩
theorem rh_exists (S : List Slot) (M b : Nat) (hb : b + M ≤ S.length) (hM : 0 < M) : ∃ r, RH S M b r := by
  by_cases c : ∃ e, S[b]? = some (some e) ∧ e.n = 0
  · obtain ⟨e, h1, h2⟩ := c
    obtain ⟨last, page, r⟩ := rh_run S M b e.g hb (M - 1) 0 (fun _ => e) (fun _ => e.p) (by omega) (fun j hj => by rw [show j = 0 by omega]; exact h1) (fun _ _ => rfl) (fun j hj => by rw [h2]; omega) (fun j hj => by omega) rfl (fun j hj => by omega)
    exact ⟨_, .some r⟩
  · exact ⟨none, .none fun e he hn => c ⟨e, he, hn⟩⟩
theorem Rd.head {S : List Slot} {M b g l : Nat} {p : Page} (r : Rd S M b g l p) : ∃ e, S[b]? = some (some e) ∧ e.n = 0 ∧ e.g = g := by
  obtain ⟨es, pg, r, _⟩ := r
  exact ⟨es 0, r.at_ 0 (Nat.zero_le _), r.hn 0 (Nat.zero_le _), r.hg 0 (Nat.zero_le _)⟩
theorem rd_same {S : List Slot} {M b g g' l l' : Nat} {es es' : Nat → Entry} {pg pg' : Nat → Page} (r : RdW S M b g l es pg) (r' : RdW S M b g' l' es' pg') : ∀ i, i ≤ l → i ≤ l' → es i = es' i ∧ pg i = pg' i
  | 0, h, h' => by
    have e := r.at_ 0 h
    rw [r'.at_ 0 h'] at e
    simp only [Option.some.injEq] at e
    exact ⟨e.symm, by rw [r.p0, r'.p0, e]⟩
  | i + 1, h, h' => by
    have e := r.at_ (i + 1) h
    rw [r'.at_ (i + 1) h'] at e
    simp only [Option.some.injEq] at e
    exact ⟨e.symm, by rw [r.pS i (by omega), r'.pS i (by omega), e, (rd_same r r' i (by omega) (by omega)).2]⟩
theorem rd_le {S : List Slot} {M b g g' l l' : Nat} {es es' : Nat → Entry} {pg pg' : Nat → Page} (r : RdW S M b g l es pg) (r' : RdW S M b g' l' es' pg') : l' ≤ l := by
  apply Nat.le_of_not_lt
  intro h
  have hg : g' = g := by rw [← r.hg 0 (Nat.zero_le _), ← r'.hg 0 (Nat.zero_le _), (rd_same r r' 0 (Nat.zero_le _) (Nat.zero_le _)).1]
  have e := r'.at_ (l + 1) h
  refine r.stop (by have := r'.lt; omega) _ e ⟨?_, r'.hn _ h, ?_⟩
  · rw [r'.hg _ h, hg]
  · rw [(rd_same r r' l (Nat.le_refl _) (by omega)).1]
    exact r'.hl l h
theorem rd_unique {S : List Slot} {M b g g' l l' : Nat} {p p' : Page} (r : Rd S M b g l p) (r' : Rd S M b g' l' p') : g = g' ∧ l = l' ∧ p = p' := by
  obtain ⟨es, pg, r, rfl⟩ := r
  obtain ⟨es', pg', r', rfl⟩ := r'
  have hl : l = l' := Nat.le_antisymm (rd_le r' r) (rd_le r r')
  subst hl
  refine ⟨?_, rfl, (rd_same r r' l (Nat.le_refl _) (Nat.le_refl _)).2⟩
  rw [← r.hg 0 (Nat.zero_le _), ← r'.hg 0 (Nat.zero_le _), (rd_same r r' 0 (Nat.zero_le _) (Nat.zero_le _)).1]
theorem rh_some {S : List Slot} {M b g l : Nat} {p : Page} {r : Option (Nat × Nat × Page)} (h : RH S M b r) (rd : Rd S M b g l p) : r = some (g, l, p) := by
  cases h with
  | none h =>
    obtain ⟨e, h1, h2, _⟩ := rd.head
    exact absurd h2 (h e h1)
  | some h =>
    obtain ⟨rfl, rfl, rfl⟩ := rd_unique h rd
    rfl
/-! ### writing a slot -/
theorem Rd.set_out {S : List Slot} {M b g l n : Nat} {p : Page} {s : Slot} (r : Rd S M b g l p) (h : ∀ i, i ≤ l → n ≠ b + i) (h' : l + 1 < M → n ≠ b + (l + 1)) : Rd (S.set n s) M b g l p := by
  obtain ⟨es, pg, r, e⟩ := r
  refine ⟨es, pg, ⟨fun i hi => ?_, r.hg, r.hn, r.hl, r.p0, r.pS, r.lt, fun c e he => ?_⟩, e⟩
  · rw [List.getElem?_set_ne (h i hi)]
    exact r.at_ i hi
  · rw [List.getElem?_set_ne (h' c)] at he
    exact r.stop c e he
theorem Rd.grow {S : List Slot} {M b g l L : Nat} {p q : Page} (r : Rd S M b g l p) (hl : l + 1 < M) (hb : b + (l + 1) < S.length) (hL : ∀ e, S[b + l]? = some (some e) → e.l ≤ L)
    (st : l + 2 < M → ∀ e, S[b + (l + 2)]? = some (some e) → ¬ (e.g = g ∧ e.n = l + 2 ∧ L ≤ e.l)) : Rd (S.set (b + (l + 1)) (some ⟨g, L, l + 1, q⟩)) M b g (l + 1) (over p q) := by
  obtain ⟨es, pg, r, rfl⟩ := r
  let es' : Nat → Entry := fun j => if j = l + 1 then ⟨g, L, l + 1, q⟩ else es j
  let pg' : Nat → Page := fun j => if j = l + 1 then over (pg l) q else pg j
  have le : ∀ j, j ≤ l → es' j = es j := fun j hj => if_neg (by omega)
  have lp : ∀ j, j ≤ l → pg' j = pg j := fun j hj => if_neg (by omega)
  have ei : es' (l + 1) = ⟨g, L, l + 1, q⟩ := if_pos rfl
  have pi : pg' (l + 1) = over (pg l) q := if_pos rfl
  refine ⟨es', pg', ⟨fun j hj => ?_, fun j hj => ?_, fun j hj => ?_, fun j hj => ?_, ?_, fun j hj => ?_, hl, fun c e he => ?_⟩, pi⟩
  · by_cases z : j = l + 1
    · subst z; rw [ei, List.getElem?_set_self hb]
    · rw [le j (by omega), List.getElem?_set_ne (by omega)]; exact r.at_ j (by omega)
  · by_cases z : j = l + 1
    · subst z; rw [ei]
    · rw [le j (by omega)]; exact r.hg j (by omega)
  · by_cases z : j = l + 1
    · subst z; rw [ei]
    · rw [le j (by omega)]; exact r.hn j (by omega)
  · by_cases z : j = l
    · subst z; rw [ei, le j (Nat.le_refl _)]; exact hL _ (r.at_ j (Nat.le_refl _))
    · rw [le j (by omega), le (j + 1) (by omega)]; exact r.hl j (by omega)
  · rw [lp 0 (by omega), le 0 (by omega)]; exact r.p0
  · by_cases z : j = l
    · subst z; rw [ei, pi, lp j (Nat.le_refl _)]
    · rw [lp j (by omega), lp (j + 1) (by omega), le (j + 1) (by omega)]; exact r.pS j (by omega)
  · rw [List.getElem?_set_ne (by omega)] at he
    rw [ei]
    exact st (by omega) e he
theorem rd_head {S : List Slot} {M b g L : Nat} {q : Page} (hM : 1 < M) (hb : b < S.length) (st : ∀ e, S[b + 1]? = some (some e) → ¬ (e.g = g ∧ e.n = 1 ∧ L ≤ e.l)) : Rd (S.set b (some ⟨g, L, 0, q⟩)) M b g 0 q := by
  refine ⟨fun _ => ⟨g, L, 0, q⟩, fun _ => q, ⟨fun i hi => ?_, fun i hi => rfl, fun i hi => ?_, fun i hi => by omega, rfl, fun i hi => by omega, by omega, fun c e he => ?_⟩, rfl⟩
  · rw [show i = 0 by omega, Nat.add_zero, List.getElem?_set_self hb]
  · show 0 = i
    omega
  · rw [List.getElem?_set_ne (by omega)] at he
    exact st e he
/-! ### what is known of slots -/
def LowH (S : List Slot) (b g : Nat) : Prop := ∀ e, S[b]? = some (some e) → e.n = 0 → e.g < g
/-- all that is no part of the run is stale -/
def Stale (S : List Slot) (M : Nat) (b : Bk) : Prop := ∀ i, (i < b.half * M ∨ b.half * M + b.last < i) → ∀ e, S[i]? = some (some e) → e.l < b.life ∨ e.g < b.gen
structure Base (S : List Slot) (M : Nat) (b : Bk) : Prop where
  len : S.length = 2 * M
  lf : ∀ e, some e ∈ S → e.l ≤ b.life
  st : Stale S M b
structure Good (S : List Slot) (M : Nat) (b : Bk) : Prop where
  base : Base S M b
  rd : Rd S M (b.half * M) b.gen b.last b.page
  low : LowH S ((1 - b.half) * M) b.gen
inductive CutG (S : List Slot) (M : Nat) (b : Bk) (line : List Page) : Prop
  | one {l : Nat} {p : Page} (base : Base S M b) (rd : Rd S M (b.half * M) b.gen l p) (hl : l ≤ b.last) (he : l = b.last → p = b.page) (hp : p ∈ line) (low : LowH S ((1 - b.half) * M) b.gen)
  | two {g l : Nat} {p : Page} (base : Base S M b) (rd : Rd S M ((1 - b.half) * M) g l p) (hg : g < b.gen) (hp : p ∈ line) (low : LowH S (b.half * M) g)
def putS (U : List (Nat × Entry)) (s : List Slot) (k : Nat) : List Slot := match U[k]? with
  | some p => s.set p.1 (some p.2)
  | none => s
def cutS (U : List (Nat × Entry)) (F : List Slot) (ns : List Nat) : List Slot := ns.foldl (putS U) F
structure Inv2 (S F : List Slot) (U : List (Nat × Entry)) (M : Nat) (b : Bk) (line : List Page) : Prop where
  hM : 2 ≤ M
  hh : b.half ≤ 1
  good : Good S M b
  hp : b.page ∈ line
  cuts : ∀ ns, Asc ns U.length → CutG (cutS U F ns) M b line
/-! ### a row is added -/
theorem place_ne {h M i j : Nat} (hh : h ≤ 1) (hi : i < M) (hj : j < M) : h * M + i ≠ (1 - h) * M + j := by
  rcases (show h = 0 ∨ h = 1 by omega) with rfl | rfl
  · simp only [Nat.zero_mul, Nat.sub_zero, Nat.one_mul]; omega
  · simp only [Nat.one_mul, Nat.sub_self, Nat.zero_mul]; omega
theorem LowH.set {S : List Slot} {b g n : Nat} {s : Slot} (h : LowH S b g) (hn : n ≠ b) : LowH (S.set n s) b g := fun e he => by
  rw [List.getElem?_set_ne hn] at he
  exact h e he
theorem LowH.mono {S : List Slot} {b g g' : Nat} (h : LowH S b g) (l : g ≤ g') : LowH S b g' := fun e he hn => Nat.lt_of_lt_of_le (h e he hn) l
abbrev nextB (b : Bk) (p : Page) : Bk := ⟨b.life, b.gen, b.half, b.last + 1, over b.page p⟩
theorem Base.skip {S : List Slot} {M : Nat} {b : Bk} {p : Page} (h : Base S M b) : Base S M (nextB b p) := ⟨h.len, h.lf, fun i hi e he => h.st i (by
  rcases hi with hi | hi
  · exact .inl hi
  · exact .inr (Nat.lt_trans (Nat.lt_succ_self _) hi)) e he⟩
theorem Base.put {S : List Slot} {M : Nat} {b : Bk} {p : Page} (h : Base S M b) : Base (S.set (b.half * M + (b.last + 1)) (some ⟨b.gen, b.life, b.last + 1, p⟩)) M (nextB b p) := by
  refine ⟨by rw [List.length_set]; exact h.len, fun e he => ?_, fun i hi e he => ?_⟩
  · rcases List.mem_or_eq_of_mem_set he with z | z
    · exact h.lf e z
    · cases z; exact Nat.le_refl _
  · have hi' : i < b.half * M ∨ b.half * M + (b.last + 1) < i := hi
    rw [List.getElem?_set_ne (by omega)] at he
    exact h.st i (by omega) e he
theorem st_next {S : List Slot} {M : Nat} {b : Bk} (h : Stale S M b) {j : Nat} (hj : b.last < j) : ∀ e, S[b.half * M + j]? = some (some e) → ¬ (e.g = b.gen ∧ e.n = j ∧ b.life ≤ e.l) := fun e he z => by
  rcases h (b.half * M + j) (.inr (by omega)) e he with c | c <;> omega
theorem mem_at {S : List Slot} {i : Nat} {e : Entry} (h : S[i]? = some (some e)) : some e ∈ S := List.mem_of_getElem? h
theorem Good.put {S : List Slot} {M : Nat} {b : Bk} {p : Page} (h : Good S M b) (hM : 2 ≤ M) (hh : b.half ≤ 1) (c : b.last + 1 < M) : Good (S.set (b.half * M + (b.last + 1)) (some ⟨b.gen, b.life, b.last + 1, p⟩)) M (nextB b p) := by
  have hb := place_lt hh c
  refine ⟨h.base.put, h.rd.grow c (by rw [h.base.len]; exact hb) (fun e he => h.base.lf e (mem_at he)) (fun c2 => st_next h.base.st (by omega)), h.low.set ?_⟩
  have := place_ne hh c (show 0 < M by omega)
  rw [Nat.add_zero] at this
  exact this
theorem CutG.skip {S : List Slot} {M : Nat} {b : Bk} {line : List Page} {p : Page} (h : CutG S M b line) : CutG S M (nextB b p) (line ++ [over b.page p]) := by
  cases h with
  | one base rd hl he hp low => exact .one base.skip rd (Nat.le_succ_of_le hl) (fun z => absurd (show _ = b.last + 1 from z) (by omega)) (List.mem_append_left _ hp) low
  | two base rd hg hp low => exact .two base.skip rd hg (List.mem_append_left _ hp) low
theorem CutG.put {S : List Slot} {M : Nat} {b : Bk} {line : List Page} {p : Page} (h : CutG S M b line) (hM : 2 ≤ M) (hh : b.half ≤ 1) (c : b.last + 1 < M) : CutG (S.set (b.half * M + (b.last + 1)) (some ⟨b.gen, b.life, b.last + 1, p⟩)) M (nextB b p) (line ++ [over b.page p]) := by
  have hb := place_lt hh c
  have ne0 := place_ne hh c (show 0 < M by omega)
  rw [Nat.add_zero] at ne0
  cases h with
  | @one l q base rd hl he hp low =>
    by_cases z : l = b.last
    · subst z
      rw [he rfl] at rd
      exact .one base.put (rd.grow c (by rw [base.len]; exact hb) (fun e he => base.lf e (mem_at he)) (fun c2 => st_next base.st (by omega))) (Nat.le_refl _) (fun _ => rfl) (by simp) (low.set ne0)
    · refine .one base.put (rd.set_out (fun i hi => by omega) (fun _ => by omega)) (Nat.le_succ_of_le hl) (fun z => absurd (show _ = b.last + 1 from z) (by omega)) (List.mem_append_left _ hp) (low.set ne0)
  | @two g l q base rd hg hp low =>
    have hlt : l < M := by
      obtain ⟨_, _, r, _⟩ := rd
      exact r.lt
    exact .two base.put (rd.set_out (fun i hi => place_ne hh c (by omega)) (fun c2 => place_ne hh c c2)) hg (List.mem_append_left _ hp) (low.set (by omega))
theorem asc_snoc {ns : List Nat} {n : Nat} (h : Asc ns (n + 1)) : Asc ns n ∨ ∃ ms, ns = ms ++ [n] ∧ Asc ms n := by
  rcases List.eq_nil_or_concat ns with rfl | ⟨ms, k, rfl⟩
  · exact .inl ⟨.nil, by simp⟩
  · rw [List.concat_eq_append] at h ⊢
    obtain ⟨h1, h2⟩ := h
    obtain ⟨a1, a2, a3⟩ := List.pairwise_append.mp h1
    have hk := h2 k (by simp)
    by_cases c : k = n
    · subst c
      exact .inr ⟨ms, rfl, a1, fun x hx => a3 x hx k (by simp)⟩
    · refine .inl ⟨h1, fun x hx => ?_⟩
      rcases List.mem_append.mp hx with z | z
      · have := a3 x z k (by simp); omega
      · rw [List.mem_singleton.mp z]; omega
theorem cutS_more {U : List (Nat × Entry)} {x : Nat × Entry} : ∀ {ns : List Nat} {F : List Slot}, (∀ n ∈ ns, n < U.length) → cutS (U ++ [x]) F ns = cutS U F ns
  | [], _, _ => rfl
  | n :: ns, F, h => by
    have e : putS (U ++ [x]) F n = putS U F n := by
      unfold putS
      rw [List.getElem?_append_left (h n (List.mem_cons_self ..))]
    show cutS (U ++ [x]) (putS (U ++ [x]) F n) ns = cutS U (putS U F n) ns
    rw [e]
    exact cutS_more fun m hm => h m (List.mem_cons_of_mem _ hm)
theorem cutS_last {U : List (Nat × Entry)} {x : Nat × Entry} {ms : List Nat} {F : List Slot} (h : ∀ n ∈ ms, n < U.length) : cutS (U ++ [x]) F (ms ++ [U.length]) = (cutS U F ms).set x.1 (some x.2) := by
  show List.foldl _ _ (ms ++ [U.length]) = _
  rw [List.foldl_append]
  show putS (U ++ [x]) (cutS (U ++ [x]) F ms) U.length = _
  rw [cutS_more h]
  unfold putS
  rw [List.getElem?_append_right (Nat.le_refl _), Nat.sub_self]
  rfl
theorem Inv2.add {S F : List Slot} {U : List (Nat × Entry)} {M : Nat} {b : Bk} {line : List Page} {p : Page} (h : Inv2 S F U M b line) :
    Inv2 (S.set (addN M b) (some (addE M b p))) (if b.last + 1 < M then F else S) (if b.last + 1 < M then U ++ [(addN M b, addE M b p)] else [(addN M b, addE M b p)]) M (addB M b p) (line ++ [over b.page p]) := by
  have hM := h.hM
  have hh := h.hh
  by_cases c : b.last + 1 < M
  · unfold addN addE addB
    simp only [if_pos c]
    refine ⟨hM, hh, h.good.put hM hh c, by simp, fun ns hn => ?_⟩
    rw [List.length_append] at hn
    rcases asc_snoc hn with hn1 | ⟨ms, rfl, hms⟩
    · rw [cutS_more hn1.2]
      exact (h.cuts ns hn1).skip
    · rw [cutS_last hms.2]
      exact (h.cuts ms hms).put hM hh c
  · have hl : b.last + 1 = M := by
      obtain ⟨_, _, r, _⟩ := h.good.rd
      have := r.lt
      omega
    unfold addN addE addB
    simp only [if_neg c]
    have len := h.good.base.len
    have hb0 : (1 - b.half) * M < 2 * M := by
      have : (1 - b.half) * M ≤ 1 * M := Nat.mul_le_mul_right _ (by omega)
      omega
    have run : ∀ (i : Nat) (e : Entry), b.half * M ≤ i → i ≤ b.half * M + b.last → S[i]? = some (some e) → e.g = b.gen := fun i e h1 h2 he => by
      obtain ⟨es, pg, r, _⟩ := h.good.rd
      have := r.at_ (i - b.half * M) (by omega)
      rw [show b.half * M + (i - b.half * M) = i by omega, he] at this
      simp only [Option.some.injEq] at this
      rw [this]
      exact r.hg _ (by omega)
    have st' : ∀ (i : Nat) (e : Entry), S[i]? = some (some e) → e.l < b.life ∨ e.g < b.gen + 1 := fun i e he => by
      by_cases z : b.half * M ≤ i ∧ i ≤ b.half * M + b.last
      · have := run i e z.1 z.2 he
        omega
      · rcases h.good.base.st i (by omega) e he with z | z <;> omega
    have hrd := h.good.rd
    have e1 : 1 - (1 - b.half) = b.half := by omega
    have baseS : Base S M ⟨b.life, b.gen + 1, 1 - b.half, 0, over b.page p⟩ := ⟨len, h.good.base.lf, fun i _ e he => st' i e he⟩
    have baseT : Base (S.set ((1 - b.half) * M + 0) (some ⟨b.gen + 1, b.life, 0, over b.page p⟩)) M ⟨b.life, b.gen + 1, 1 - b.half, 0, over b.page p⟩ := by
      refine ⟨by rw [List.length_set]; exact len, fun e he => ?_, fun i hi e he => ?_⟩
      · rcases List.mem_or_eq_of_mem_set he with z | z
        · exact h.good.base.lf e z
        · cases z; exact Nat.le_refl _
      · have hi' : i < (1 - b.half) * M ∨ (1 - b.half) * M + 0 < i := hi
        rw [List.getElem?_set_ne (by omega)] at he
        exact st' i e he
    have rdT : Rd (S.set ((1 - b.half) * M + 0) (some ⟨b.gen + 1, b.life, 0, over b.page p⟩)) M ((1 - b.half) * M) (b.gen + 1) 0 (over b.page p) := by
      rw [Nat.add_zero]
      exact rd_head (by omega) (by rw [len]; exact hb0) fun e he z => by
        rcases st' _ e he with c | c <;> omega
    have lowT : LowH (S.set ((1 - b.half) * M + 0) (some ⟨b.gen + 1, b.life, 0, over b.page p⟩)) ((1 - (1 - b.half)) * M) (b.gen + 1) := by
      rw [e1]
      have hne := place_ne hh (show 0 < M by omega) (show 0 < M by omega)
      refine LowH.set (fun e he _ => ?_) (by omega)
      have := run (b.half * M) e (Nat.le_refl _) (by omega) he
      omega
    refine ⟨hM, by show 1 - b.half ≤ 1; omega, ⟨baseT, rdT, lowT⟩, by simp, fun ns hn => ?_⟩
    rcases asc_snoc (n := 0) hn with hn1 | ⟨ms, rfl, hms⟩
    · have : ns = [] := by
        cases ns with
        | nil => rfl
        | cons a r => exact absurd (hn1.2 a (List.mem_cons_self ..)) (Nat.not_lt_zero _)
      subst this
      refine .two (g := b.gen) (l := b.last) (p := b.page) baseS ?_ (Nat.lt_succ_self _) (List.mem_append_left _ h.hp) h.good.low
      show Rd S M ((1 - (1 - b.half)) * M) b.gen _ _
      rw [e1]
      exact hrd
    · have : ms = [] := by
        cases ms with
        | nil => rfl
        | cons a r => exact absurd (hms.2 a (List.mem_cons_self ..)) (Nat.not_lt_zero _)
      subst this
      exact .one baseT rdT (Nat.le_refl _) (fun _ => rfl) (by simp) lowT
theorem Good.cut {S : List Slot} {M : Nat} {b : Bk} {line : List Page} (h : Good S M b) (hp : b.page ∈ line) : CutG S M b line := .one h.base h.rd (Nat.le_refl _) (fun _ => rfl) hp h.low
theorem Inv2.flush {S F : List Slot} {U : List (Nat × Entry)} {M : Nat} {b : Bk} {line : List Page} (h : Inv2 S F U M b line) : Inv2 S S [] M b [b.page] :=
  ⟨h.hM, h.hh, h.good, by simp, fun ns hn => by
    cases ns with
    | nil => exact h.good.cut (by simp)
    | cons a r => exact absurd (hn.2 a (List.mem_cons_self ..)) (Nat.not_lt_zero _)⟩
/-- opened anew behind a fall -/
theorem fresh_good {S : List Slot} {M h g l : Nat} {p : Page} (len : S.length = 2 * M) (rd : Rd S M (h * M) g l p) (low : LowH S ((1 - h) * M) g) : Good S M ⟨1 + lifeOf S, g, h, l, p⟩ :=
  ⟨⟨len, fun e he => Nat.le_succ_of_le (by have := life_le he; show e.l ≤ lifeOf S; exact this) |> fun z => by show e.l ≤ 1 + lifeOf S; omega, fun i _ e he => .inl (by have := life_le (mem_at he); show e.l < 1 + lifeOf S; omega)⟩, rd, low⟩
theorem pick_of {S : List Slot} {M h g l : Nat} {p : Page} {r0 r1 : Option (Nat × Nat × Page)} (hh : h ≤ 1) (h0 : RH S M 0 r0) (h1 : RH S M M r1) (rd : Rd S M (h * M) g l p) (low : LowH S ((1 - h) * M) g) : pickH r0 r1 = some (g, h, l, p) := by
  rcases (show h = 0 ∨ h = 1 by omega) with rfl | rfl
  · rw [Nat.zero_mul] at rd
    rw [show (1 - 0) * M = M by omega] at low
    rw [rh_some h0 rd]
    cases h1 with
    | none _ => rfl
    | @some g' l' p' rd' =>
      obtain ⟨e, e1, e2, e3⟩ := rd'.head
      have := low e e1 e2
      unfold pickH
      dsimp only
      rw [if_neg (by omega)]
  · rw [Nat.one_mul] at rd
    rw [show (1 - 1) * M = 0 by omega] at low
    rw [rh_some h1 rd]
    cases h0 with
    | none _ => rfl
    | @some g' l' p' rd' =>
      obtain ⟨e, e1, e2, e3⟩ := rd'.head
      have := low e e1 e2
      unfold pickH
      dsimp only
      rw [if_pos (by omega)]
theorem Inv2.fall {S F : List Slot} {U : List (Nat × Entry)} {M : Nat} {b : Bk} {line : List Page} {ns : List Nat} {r0 r1 : Option (Nat × Nat × Page)} {first : Page} (h : Inv2 S F U M b line) (hn : Asc ns U.length) (h0 : RH (cutS U F ns) M 0 r0) (h1 : RH (cutS U F ns) M M r1) :
    ∃ g h l p, pickH r0 r1 = some (g, h, l, p) ∧ p ∈ line ∧ Inv2 (cutS U F ns) (cutS U F ns) [] M ⟨1 + lifeOf (cutS U F ns), g, h, l, p⟩ [p] := by
  have fin : ∀ (h' g l : Nat) (p : Page), h' ≤ 1 → (cutS U F ns).length = 2 * M → Rd (cutS U F ns) M (h' * M) g l p → LowH (cutS U F ns) ((1 - h') * M) g → Inv2 (cutS U F ns) (cutS U F ns) [] M ⟨1 + lifeOf (cutS U F ns), g, h', l, p⟩ [p] := fun h' g l p hh len rd low =>
    ⟨h.hM, hh, fresh_good len rd low, by simp, fun ns hn => by
      cases ns with
      | nil => exact (fresh_good len rd low).cut (by simp)
      | cons a r => exact absurd (hn.2 a (List.mem_cons_self ..)) (Nat.not_lt_zero _)⟩
  cases h.cuts ns hn with
  | one base rd hl he hp low => exact ⟨_, _, _, _, pick_of h.hh h0 h1 rd low, hp, fin _ _ _ _ h.hh base.len rd low⟩
  | @two g l p base rd hg hp low =>
    have e1 : 1 - (1 - b.half) = b.half := by have := h.hh; omega
    have low' : LowH (cutS U F ns) ((1 - (1 - b.half)) * M) g := by rw [e1]; exact low
    exact ⟨_, _, _, _, pick_of (by omega) h0 h1 rd low', hp, fin _ _ _ _ (by omega) base.len rd low'⟩
/-- the first opening, on empty slots -/
theorem inv_first {M : Nat} {first : Page} (hM : 2 ≤ M) : Inv2 ((List.replicate (2 * M) (none : Slot)).set 0 (some ⟨1, 1, 0, first⟩)) ((List.replicate (2 * M) (none : Slot)).set 0 (some ⟨1, 1, 0, first⟩)) [] M ⟨1, 1, 0, 0, first⟩ [first] := by
  have at_ : ∀ i e, 0 < i → ((List.replicate (2 * M) (none : Slot)).set 0 (some ⟨1, 1, 0, first⟩))[i]? = some (some e) → False := fun i e hi he => by
    rw [List.getElem?_set_ne (by omega)] at he
    have := (List.mem_replicate.mp (List.mem_of_getElem? he)).2
    cases this
  have g : Good ((List.replicate (2 * M) (none : Slot)).set 0 (some ⟨1, 1, 0, first⟩)) M ⟨1, 1, 0, 0, first⟩ := by
    refine ⟨⟨by rw [List.length_set, List.length_replicate], fun e he => ?_, fun i hi e he => ?_⟩, ?_, fun e he => (at_ _ e ?_ he).elim⟩
    · rcases List.mem_or_eq_of_mem_set he with z | z
      · have := (List.mem_replicate.mp z).2
        cases this
      · cases z; exact Nat.le_refl _
    · have hi : i < 0 * M ∨ 0 * M + 0 < i := hi
      rw [Nat.zero_mul] at hi
      exact (at_ i e (by omega) he).elim
    · show Rd _ M (0 * M) 1 0 first
      rw [Nat.zero_mul]
      refine rd_head (by omega) (by rw [List.length_replicate]; omega) fun e he => ?_
      have := (List.mem_replicate.mp (List.mem_of_getElem? he)).2
      cases this
    · show 0 < (1 - 0) * M
      omega
  exact ⟨hM, Nat.zero_le _, g, by simp, fun ns hn => by
    cases ns with
    | nil => exact g.cut (by simp)
    | cons a r => exact absurd (hn.2 a (List.mem_cons_self ..)) (Nat.not_lt_zero _)⟩
/-- the cut, at data -/
theorem cut_map (U : List (Nat × Entry)) : ∀ (ns : List Nat) (F : List Slot), cutP (U.map entP) (F.map slD) ns = (cutS U F ns).map slD
  | [], F => rfl
  | n :: ns, F => by
    show cutP _ (putAt _ (F.map slD) n) ns = (cutS U (putS U F n) ns).map slD
    have e : putAt (U.map entP) (F.map slD) n = (putS U F n).map slD := by
      cases h : U[n]? with
      | none =>
        rw [putAt_none (by rw [List.getElem?_map, h]; rfl)]
        unfold putS
        rw [h]
      | some p =>
        rw [putAt_some (p := entP p) (by rw [List.getElem?_map, h]; rfl)]
        unfold putS
        rw [h]
        dsimp only
        rw [List.map_set]
        rfl
    rw [e]
    exact cut_map U ns (putS U F n)
end Y
/-! part C5 -/
/-! The law's own disk and book, on. -/
namespace Y
open PySem L2
section
variable {K : PySem.W.Frag} {σ : L2.St} {H : Hp} {Q : VK}
def kDisp (p : Addr) (ps : List (V × V)) (H2 : Hp) (Q : VK) : Prop := H2 p = some (.dK []) ∧ ∃ kvs : List (L2.Key × V), ps = kvs.map (fun kv => (kV kv.1, kv.2)) ∧ kvs.length ≤ 15 ∧ Q (.ref p) (upd H2 p (.dK (mergeK [] kvs)))
theorem x_disp {trs : List (TE × TE)} (q : ∀ p H1, Ex H H1 → H p = none → H1 p = some (.dK []) → tPairs trs σ H1 fun ps H2 => kDisp p ps H2 Q) : tDisp trs σ H Q := fun p hp => q p _ (Ex.new hp) hp upd_same
theorem x_pcons {tk tv : TE} {r : List (TE × TE)} {Q : List (V × V) → Hp → Prop} (q : tk σ H fun x H1 => tv σ H1 fun y H2 => tPairs r σ H2 fun ps H3 => Q ((x, y) :: ps) H3) : tPairs ((tk, tv) :: r) σ H Q := q
theorem x_pnil {Q : List (V × V) → Hp → Prop} (q : Q [] H) : tPairs [] σ H Q := q
theorem x_kdisp {p : Addr} {ps : List (V × V)} (kvs gs : List (L2.Key × V)) (h : H p = some (.dK [])) (e : ps = kvs.map (fun kv => (kV kv.1, kv.2))) (l : kvs.length ≤ 15) (m : mergeK [] kvs = gs) (k : ∀ H', Go [p] H H' → H' p = some (.dK gs) → Q (.ref p) H') : kDisp p ps H Q :=
  ⟨h, kvs, e, l, k _ (Go.set h (by intro _ z; cases z)) (by rw [upd_same, m])⟩
end
local macro_rules | `(tactic| walk_at "y1") => `(tactic| (first
  | (with_reducible refine x_seq ?_) | (with_reducible refine x_asg ?_) | (with_reducible refine x_name ?_) | (with_reducible refine x_drop ?_) | (with_reducible refine x_ret ?_) | (with_reducible refine x_retN ?_)
  | (with_reducible refine x_next ?_) | (with_reducible refine x_brk ?_) | (with_reducible refine x_ifS ?_)
  | (with_reducible refine x_c ?_) | (with_reducible refine x_op ?_) | (with_reducible refine x_un ?_) | (with_reducible refine x_cb ?_) | (with_reducible refine x_cons ?_) | (with_reducible refine x_nil ?_)
  | (with_reducible refine x_call ?_) | (with_reducible refine x_tup ?_) | (with_reducible refine x_lst ?_) | (with_reducible refine x_sl ?_) | (with_reducible refine x_nopart ?_) | (with_reducible refine x_part ?_)
  | (with_reducible refine x_andV ?_) | (with_reducible refine x_orV ?_) | (with_reducible refine x_notV ?_) | (with_reducible refine x_if ?_) | (with_reducible refine x_test ?_) | (with_reducible refine x_tb ?_)
  | (with_reducible refine x_and ?_) | (with_reducible refine x_or ?_) | (with_reducible refine x_not ?_) | (with_reducible refine x_chain ?_) | (with_reducible refine x_exbl ?_) | (with_reducible refine x_exint ?_)
  | (with_reducible refine x_fld ?_) | (with_reducible refine x_sfld ?_) | (with_reducible refine x_par ?_) | (with_reducible refine x_par3 ?_) | (with_reducible refine x_dget ?_) | (with_reducible refine x_dput ?_)
  | (with_reducible refine x_bm ?_) | (with_reducible refine x_bm0 ?_) | (with_reducible refine x_pair ?_) | (with_reducible refine x_tri ?_) | (with_reducible refine x_int ?_) | (with_reducible refine x_intb ?_) | (with_reducible refine x_abs ?_) | (with_reducible refine x_isN ?_) | (with_reducible refine x_notN ?_) | (with_reducible refine x_meth ?_) | (with_reducible refine x_make ?_)
  | (with_reducible refine x_ite1 ?_) | (with_reducible refine x_ite0 ?_)
  | (with_reducible refine x_addi ?_) | (with_reducible refine x_neg ?_) | (with_reducible refine x_i0 ?_) | (with_reducible refine x_eqi ?_) | (with_reducible refine x_eqs ?_) | (with_reducible refine x_eqb ?_) | (with_reducible refine x_nei ?_) | (with_reducible refine x_lti ?_)
  | (with_reducible refine x_forL ?_) | (with_reducible refine x_forT ?_) | (with_reducible refine x_forR ?_) | (with_reducible refine x_forR2 ?_) | (with_reducible refine x_lcL ?_) | (with_reducible refine x_lcT ?_) | (with_reducible refine x_lcR ?_)
  | (with_reducible refine x_yes ?_) | (with_reducible refine x_pcons ?_) | (with_reducible refine x_pnil ?_) | (with_reducible refine x_gcons ?_) | (with_reducible refine x_gnil ?_) | (with_reducible refine x_gattr ?_) | (with_reducible refine x_raise ?_) | (with_reducible refine x_gsub ?_) | (with_reducible refine x_fldaug ?_) | (with_reducible refine x_radd ?_) | (with_reducible refine x_ipi ?_) | ((with_reducible refine x_aug (x := ?vv) ?hh ?qq); (case hh => exact rfl))
  | ((with_reducible refine x_iteA ?hc ?q); (case hc => exact rfl)) | ((with_reducible refine x_iteB ?hc ?q); (case hc => exact rfl))
  | ((with_reducible refine x_var (v := ?vv) ?hh ?qq); (case hh => exact rfl))
  | ((with_reducible refine r_isInt (d := ?dd) ?hh ?qq); (case hh => assumption)) | ((with_reducible refine r_isBool (d := ?dd) ?hh ?qq); (case hh => assumption)) | ((with_reducible refine r_isTup (d := ?dd) ?hh ?qq); (case hh => assumption))
  | ((with_reducible refine r_isStr (d := ?dd) ?hh ?qq); (case hh => assumption)) | ((with_reducible refine r_isLst (d := ?dd) ?hh ?qq); (case hh => assumption))))
local macro_rules | `(tactic| walk_at "y") => `(tactic| (repeat (walk_at "y1")))
section
variable {P : Program} {w : World} {K : PySem.W.Frag} {mg : Str → Option Value} {base : Heap}
/-! ### disk -/
def spDiskL (K : PySem.W.Frag) : Sp := fun vs H Q _ => ∃ (m : Nat), vs = [.int (m : Int)] ∧ m ≤ 64 ∧ ∀ dd ls lf lp H', Ex H H' → H dd = none → H ls = none → H lf = none → H lp = none → LDisk K dd ls lf lp (List.replicate m none) (List.replicate m none) [] H' → Q (.ref dd) H'
abbrev s_disk : Stmt := top 38
abbrev nms_disk : List Str := ["many"]
theorem sc_disk : FnScope nms_disk ["many"] (defScope s_disk) := ⟨rfl, rfl, rfl, by decide +kernel, rfl, by decide +kernel, by decide +kernel⟩
theorem ok_disk {f : Addr} {fd : FuncData} (F : Fun K "_law_disk" "_law_disk" s_disk f fd) (hm : mg "_law_disk" = some (.ref f)) (b : Binds K fd ["many"] []) (T : Bt mg) : Cal P w K mg base 1 "_law_disk" (spDiskL K) := by
  refine cal_of F hm b sc_disk (fun vs H Q E h => ?_) (fun cdv A outer s H vs Q E hr h => ?_)
  · obtain ⟨m, rfl, _⟩ := h
    rfl
  · obtain ⟨m, rfl, hm, q⟩ := h
    have hu64 := pass_hu64 hr
    refine ⟨_, (pss_one (ps_ret (pe_disp (pps_cons pe_str (pe_op oMul (pe_lst (pa_cons (pe_tup pa_nil) pa_nil)) (pv 0)) (pps_cons pe_str (pe_op oMul (pe_lst (pa_cons (pe_tup pa_nil) pa_nil)) (pv 0)) (pps_cons pe_str (pe_lst pa_nil) pps_nil))) (by rfl) (by rfl) (fun z => by cases z) (by decide)))), ?_⟩
    try dsimp only [cxOf]
    refine x_ret (x_disp fun p H1 e1 n1 h1 => ?_)
    walk_at "y"
    refine x_mkt (K := K) .nil fun u2 H2 e2 w2 => ?_
    walk_at "y"
    refine x_mkl fun p3 H3 e3 n3 h3 => ?_
    walk_at "y"
    refine x_mull h3 (by omega) (by simp; omega) (by omega) fun p4 H4 e4 n4 h4 => ?_
    walk_at "y"
    refine x_mkt (K := K) .nil fun u5 H5 e5 w5 => ?_
    walk_at "y"
    refine x_mkl fun p6 H6 e6 n6 h6 => ?_
    walk_at "y"
    refine x_mull h6 (by omega) (by simp; omega) (by omega) fun p7 H7 e7 n7 h7 => ?_
    walk_at "y"
    refine x_mkl (vs := []) fun p8 H8 e8 n8 h8 => ?_
    rw [Int.toNat_natCast, flat_rep] at h4 h7
    walk_at "y"
    have E48 := e5.trans (e6.trans (e7.trans e8))
    have E14 := e2.trans (e3.trans e4)
    refine x_kdisp [(sK "slots", .ref p4), (sK "safe", .ref p7), (sK "puts", .ref p8)] _ ((E14.trans E48) _ _ h1) rfl (by simp) rfl fun H9 g9 h9 => ?_
    replace h9 : H9 p = some (.dK [(sK "slots", .ref p4), (sK "safe", .ref p7), (sK "puts", .ref p8)]) := h9
    have k4 : p4 ≠ p := fun z => by have := (e2.trans e3) _ _ h1; rw [← z, n4] at this; cases this
    have k7 : p7 ≠ p := fun z => by have := (E14.trans (e5.trans e6)) _ _ h1; rw [← z, n7] at this; cases this
    have k8 : p8 ≠ p := fun z => by have := (E14.trans (e5.trans (e6.trans e7))) _ _ h1; rw [← z, n8] at this; cases this
    have N4 : H p4 = none := e1.free ((e2.trans e3).free n4)
    have N7 : H p7 = none := e1.free ((E14.trans (e5.trans e6)).free n7)
    have N8 : H p8 = none := e1.free ((E14.trans (e5.trans (e6.trans e7))).free n8)
    have nil : ∀ (u : V), Wt K H9 u (.tuple []) → ∀ n, WtL K H9 (List.replicate n u) ((List.replicate n (none : Slot)).map slD) := fun u wu n => by
      rw [List.map_replicate]
      exact WtL.replicate wu n
    have w29 : Wt K H9 u2 (.tuple []) := (w2.ex (e3.trans (e4.trans E48))).go g9 rfl
    have w59 : Wt K H9 u5 (.tuple []) := (w5.ex (e6.trans (e7.trans e8))).go g9 rfl
    refine q p p4 p7 p8 H9 (ex_of_go (e1.trans (E14.trans E48)) n1 g9) n1 N4 N7 N8 ⟨h9, ⟨_, g9.keep _ _ (by simp [k4]) (E48 _ _ h4), nil _ w29 m⟩, ⟨_, g9.keep _ _ (by simp [k7]) (e8 _ _ h7), nil _ w59 m⟩, ⟨[], g9.keep _ _ (by simp [k8]) h8, .nil⟩, fun z => ?_, fun z => ?_, fun z => ?_⟩
    · have := (e5.trans e6) _ _ h4; rw [z, n7] at this; cases this
    · have := (e5.trans (e6.trans e7)) _ _ h4; rw [z, n8] at this; cases this
    · rw [z, n8] at h7; cases h7
/-! ### cut -/
def spCut (K : PySem.W.Frag) : Sp := fun vs H Q _ => ∃ dd ls lf lp lk ns S F U M, vs = [.ref dd, .ref lk] ∧ H lk = some (.lst (nums ns)) ∧ LDisk K dd ls lf lp S F U H ∧ DskOk S F U M ∧ Asc ns U.length ∧
  ∀ ls' lf' lp' H', Go [dd] H H' → H ls' = none → H lf' = none → H lp' = none → LDisk K dd ls' lf' lp' (cutS U F ns) (cutS U F ns) [] H' → Q .non H'
abbrev s_cut : Stmt := top 41
abbrev nms_cut : List Str := ["disk", "kept", "slots", "k"]
theorem sc_cut : FnScope nms_cut ["disk", "kept"] (defScope s_cut) := ⟨rfl, rfl, rfl, by decide +kernel, rfl, by decide +kernel, by decide +kernel⟩
theorem ok_cut {f : Addr} {fd : FuncData} (F : Fun K "_law_cut" "_law_cut" s_cut f fd) (hm : mg "_law_cut" = some (.ref f)) (b : Binds K fd ["disk", "kept"] []) (T : Bt mg) : Cal P w K mg base 1 "_law_cut" (spCut K) := by
  refine cal_of F hm b sc_cut (fun vs H Q E h => ?_) (fun cdv A outer s H vs Q E hr h => ?_)
  · obtain ⟨dd, ls, lf, lp, lk, ns, S, F, U, M, rfl, _⟩ := h
    rfl
  · obtain ⟨dd, ls, lf, lp, lk, ns, S, F, U, M, rfl, hk, hd, od, ha, q⟩ := h
    have hu64 := pass_hu64 hr
    have hu1 : (A.deeper (PyProof.Rows.envOfC "_law_cut" (defScope s_cut) s.heap.objs.size f cdv)).units + 1 < cLine := by have := hr.un; omega
    refine ⟨_, (pss_cons (ps_set (i := 2) sc_cut.nd rfl (by first | exact Or.inl rfl | exact Or.inr rfl) (pe_callTy cList (by rfl) T.list (by decide +kernel) (pa_cons (pe_dget hu1 (pv 0) pe_str (fun _ _ => rfl)) pa_nil)))
    (pss_cons (ps_for (passes_of rfl) rfl (pi_list (pv 1)) (pg_name (i := 3) sc_cut.nd rfl (by first | exact Or.inl rfl | exact Or.inr rfl))
    (pss_one (ps_asg (pe_ix (oIxK K) (pe_ix (oIxK K) (pe_dget hu1 (pv 0) pe_str (fun _ _ => rfl)) (pv 3) (fun _ _ => rfl)) pe_int (fun _ _ => rfl)) (pg_sub (pv 2) (pe_ix (oIxK K) (pe_ix (oIxK K) (pe_dget hu1 (pv 0) pe_str (fun _ _ => rfl)) (pv 3) (fun _ _ => rfl)) pe_int (fun _ _ => rfl)) set_list))))
    (pss_one (ps_asg (pe_tup (pa_cons (pv 2) (pa_cons (pe_callTy cList (by rfl) T.list (by decide +kernel) (pa_cons (pv 2) pa_nil)) (pa_cons (pe_lst pa_nil) pa_nil)))) (pg_tup (n := 3) rfl (pgs_cons (pg_sub (pv 0) pe_str (set_dict hu1)) (pgs_cons (pg_sub (pv 0) pe_str (set_dict hu1)) (pgs_cons (pg_sub (pv 0) pe_str (set_dict hu1)) pgs_nil)))))))), ?_⟩
    try dsimp only [cxOf]
    obtain ⟨xs, e1, w1⟩ := hd.s
    obtain ⟨ys, e2, w2⟩ := hd.f
    obtain ⟨zs, e3, w3⟩ := hd.p
    walk_at "y"
    refine x_kdgetK hd.d rfl ?_
    walk_at "y"
    refine x_lstl e2 fun l H1 x1 n1 h1 => ?_
    walk_at "y"
    have lf2 : (F.map slD).length = 2 * M := by rw [List.length_map, od.lf]
    have cto : ∀ i, tupOnlyL (cutP (U.map entP) (F.map slD) (ns.take i)) = true := fun i => tupOnlyL_iff.mpr (cutP_to (fun p hp => (od.d.hpu p hp).1) _ _ od.d.hsf)
    refine y_forL (fun i σ H' => Ex H H' ∧ ∃ (o : Option V) (vs : List V), σ = [some (.ref dd), some (.ref lk), some (.ref l), o] ∧ H' l = some (.lst vs) ∧ WtL K H' vs (cutP (U.map entP) (F.map slD) (ns.take i))) (x1 _ _ hk) ⟨x1, _, ys, rfl, h1, w2.ex x1⟩ (fun i σ H' p => p.1 _ _ hk) (fun i x σ H' hx p => ?_) fun σ H' p => ?_
    · obtain ⟨ex, oo, vs, rfl, hl, wl⟩ := p
      obtain ⟨n, hn, rfl⟩ := nums_at hx
      have hlt := (asc_at ha hn).1
      obtain ⟨p, hp⟩ : ∃ p, U[n]? = some p := ⟨U[n], List.getElem?_eq_getElem hlt⟩
      have hp1 : (U.map entP)[n]? = some (entP p) := by rw [List.getElem?_map, hp]; rfl
      have hpm := od.d.hpu _ (List.mem_of_getElem? hp1)
      have hpd : ((U.map entP).map putD)[n]? = some (putD (entP p)) := by rw [List.getElem?_map, hp1]; rfl
      obtain ⟨x0, hx0, wx0⟩ := w3.getD hpd
      have wx0 := wx0.ex ex
      walk_at "y"
      refine x_kdgetK (ex _ _ hd.d) rfl ?_
      walk_at "y"
      refine x_ixl (ex _ _ e3) rfl hx0 ?_
      walk_at "y"
      refine x_ixd (n := 1) (d := (entP p).2) wx0 rfl rfl fun u2 wu2 => ?_
      walk_at "y"
      refine x_kdgetK (ex _ _ hd.d) rfl ?_
      walk_at "y"
      refine x_ixl (ex _ _ e3) rfl hx0 ?_
      walk_at "y"
      refine x_ixd (n := 0) (d := .int ((entP p).1 : Int)) wx0 rfl rfl fun u4 wu4 => ?_
      cases wu4
      have hlen : (entP p).1 < vs.length := by
        rw [wl.len, cutP_len]
        exact hpm.2
      refine x_setl hl rfl hlen fun H3 g3 h3 => ?_
      refine ⟨ex_of_go ex n1 g3, _, _, rfl, h3, ?_⟩
      have := cto (i + 1)
      rw [cutP_take hn hp1] at this ⊢
      exact (wl.set wu2 (entP p).1).go g3 this
    · obtain ⟨ex, oo, vs, rfl, hl, wl⟩ := p
      have et : ns.take (nums ns).length = ns := by unfold nums; rw [List.length_map, List.take_length]
      have ct := cto (nums ns).length
      rw [et] at wl ct
      rw [cut_map] at wl ct
      walk_at "y"
      refine x_lstl hl fun p2 H2 x2 n2 h2 => ?_
      walk_at "y"
      refine x_mkl (vs := []) fun p3 H3 x3 n3 h3 => ?_
      walk_at "y"
      refine x_mkr fun p4 H4 x4 n4 h4 => ?_
      walk_at "y"
      refine x_gtup h4 rfl ?_
      have E4 := ex.trans (x2.trans (x3.trans x4))
      walk_at "y"
      refine x_setD (E4 _ _ hd.d) (by simp) rfl fun H5 g5 h5 => ?_
      replace h5 : H5 dd = some (.dK [(sK "slots", .ref l), (sK "safe", .ref lf), (sK "puts", .ref lp)]) := h5
      walk_at "y"
      refine x_setD h5 (by simp) rfl fun H6 g6 h6 => ?_
      replace h6 : H6 dd = some (.dK [(sK "slots", .ref l), (sK "safe", .ref p2), (sK "puts", .ref lp)]) := h6
      walk_at "y"
      refine x_setD h6 (by simp) rfl fun H7 g7 h7 => ?_
      replace h7 : H7 dd = some (.dK [(sK "slots", .ref l), (sK "safe", .ref p2), (sK "puts", .ref p3)]) := h7
      walk_at "y"
      have G : Go [dd] H4 H7 := (g5.trans g6).trans g7
      have nd : ∀ l zs, H4 l = some (.lst zs) → l ∉ [dd] := fun l zs e z => by
        have := E4 _ _ hd.d
        rw [← List.mem_singleton.mp z, e] at this
        cases this
      have kl := (x2.trans (x3.trans x4)) _ _ hl
      have k2 := (x3.trans x4) _ _ h2
      have k3 := x4 _ _ h3
      refine q l p2 p3 H7 (E4.go.trans G) n1 (ex.free n2) ((ex.trans x2).free n3) ⟨h7, ⟨_, G.keep _ _ (nd _ _ kl) kl, (wl.ex (x2.trans (x3.trans x4))).go G ct⟩, ⟨_, G.keep _ _ (nd _ _ k2) k2, (wl.ex (x2.trans (x3.trans x4))).go G ct⟩, ⟨[], G.keep _ _ (nd _ _ k3) k3, .nil⟩, fun z => ?_, fun z => ?_, fun z => ?_⟩
      · rw [z, n2] at hl; cases hl
      · have := x2 _ _ hl; rw [z, n3] at this; cases this
      · rw [z, n3] at h2; cases h2
end
end Y
/-! part C6 -/
/-! The law's own book. -/
namespace Y
open PySem L2
theorem go_free {S : List Addr} {H H' : Hp} {a : Addr} (g : Go S H H') (hs : ∀ s ∈ S, H' s ≠ none) (h : H' a = none) : H a = none := by
  cases q : H a with
  | none => rfl
  | some o =>
    by_cases c : a ∈ S
    · exact absurd h (hs a c)
    · rw [g.keep a o c q] at h; cases h
local macro_rules | `(tactic| walk_at "y1") => `(tactic| (first
  | (with_reducible refine x_seq ?_) | (with_reducible refine x_asg ?_) | (with_reducible refine x_name ?_) | (with_reducible refine x_drop ?_) | (with_reducible refine x_ret ?_) | (with_reducible refine x_retN ?_)
  | (with_reducible refine x_next ?_) | (with_reducible refine x_brk ?_) | (with_reducible refine x_ifS ?_)
  | (with_reducible refine x_c ?_) | (with_reducible refine x_op ?_) | (with_reducible refine x_un ?_) | (with_reducible refine x_cb ?_) | (with_reducible refine x_cons ?_) | (with_reducible refine x_nil ?_)
  | (with_reducible refine x_call ?_) | (with_reducible refine x_tup ?_) | (with_reducible refine x_lst ?_) | (with_reducible refine x_sl ?_) | (with_reducible refine x_nopart ?_) | (with_reducible refine x_part ?_)
  | (with_reducible refine x_andV ?_) | (with_reducible refine x_orV ?_) | (with_reducible refine x_notV ?_) | (with_reducible refine x_if ?_) | (with_reducible refine x_test ?_) | (with_reducible refine x_tb ?_)
  | (with_reducible refine x_and ?_) | (with_reducible refine x_or ?_) | (with_reducible refine x_not ?_) | (with_reducible refine x_chain ?_) | (with_reducible refine x_exbl ?_) | (with_reducible refine x_exint ?_)
  | (with_reducible refine x_fld ?_) | (with_reducible refine x_sfld ?_) | (with_reducible refine x_par ?_) | (with_reducible refine x_par3 ?_) | (with_reducible refine x_dget ?_) | (with_reducible refine x_dput ?_)
  | (with_reducible refine x_bm ?_) | (with_reducible refine x_bm0 ?_) | (with_reducible refine x_pair ?_) | (with_reducible refine x_tri ?_) | (with_reducible refine x_int ?_) | (with_reducible refine x_intb ?_) | (with_reducible refine x_abs ?_) | (with_reducible refine x_isN ?_) | (with_reducible refine x_notN ?_) | (with_reducible refine x_meth ?_) | (with_reducible refine x_make ?_)
  | (with_reducible refine x_ite1 ?_) | (with_reducible refine x_ite0 ?_)
  | (with_reducible refine x_addi ?_) | (with_reducible refine x_neg ?_) | (with_reducible refine x_i0 ?_) | (with_reducible refine x_eqi ?_) | (with_reducible refine x_eqs ?_) | (with_reducible refine x_eqb ?_) | (with_reducible refine x_nei ?_) | (with_reducible refine x_lti ?_)
  | (with_reducible refine x_forL ?_) | (with_reducible refine x_forT ?_) | (with_reducible refine x_forR ?_) | (with_reducible refine x_forR2 ?_) | (with_reducible refine x_lcL ?_) | (with_reducible refine x_lcT ?_) | (with_reducible refine x_lcR ?_)
  | (with_reducible refine x_yes ?_) | (with_reducible refine x_pcons ?_) | (with_reducible refine x_pnil ?_) | (with_reducible refine x_gcons ?_) | (with_reducible refine x_gnil ?_) | (with_reducible refine x_gattr ?_) | (with_reducible refine x_raise ?_) | (with_reducible refine x_gsub ?_) | (with_reducible refine x_fldaug ?_) | (with_reducible refine x_radd ?_) | (with_reducible refine x_ipi ?_) | ((with_reducible refine x_aug (x := ?vv) ?hh ?qq); (case hh => exact rfl))
  | ((with_reducible refine x_iteA ?hc ?q); (case hc => exact rfl)) | ((with_reducible refine x_iteB ?hc ?q); (case hc => exact rfl))
  | ((with_reducible refine x_var (v := ?vv) ?hh ?qq); (case hh => exact rfl))
  | ((with_reducible refine r_isInt (d := ?dd) ?hh ?qq); (case hh => assumption)) | ((with_reducible refine r_isBool (d := ?dd) ?hh ?qq); (case hh => assumption)) | ((with_reducible refine r_isTup (d := ?dd) ?hh ?qq); (case hh => assumption))
  | ((with_reducible refine r_isStr (d := ?dd) ?hh ?qq); (case hh => assumption)) | ((with_reducible refine r_isLst (d := ?dd) ?hh ?qq); (case hh => assumption))))
local macro_rules | `(tactic| walk_at "y") => `(tactic| (repeat (walk_at "y1")))
section
variable {P : Program} {w : World} {K : PySem.W.Frag} {mg : Str → Option Value} {base : Heap}
abbrev ownF (b : Bk) (v : V) : List (L2.Key × V) := [(sK "life", .int (b.life : Int)), (sK "generation", .int (b.gen : Int)), (sK "half", .int (b.half : Int)), (sK "last", .int (b.last : Int)), (sK "page", v)]
def OwnAt (K : PySem.W.Frag) (od : Addr) (b : Bk) (H : Hp) : Prop := ∃ v, H od = some (.dK (ownF b v)) ∧ Wt K H v (pageD b.page)
theorem OwnAt.go {L : List Addr} {a : Addr} {b : Bk} {H H' : Hp} (h : OwnAt K a b H) (o : PageOk b.page) (g : Go L H H') (n : a ∉ L) : OwnAt K a b H' := by
  obtain ⟨v, e, w⟩ := h
  exact ⟨v, g.keep a _ n e, w.go g (lay_page o).to⟩
def spBookL (K : PySem.W.Frag) : Sp := fun vs H Q _ => ∃ dd ls lf lp y first S F U M r0 r1, vs = [.ref dd, y] ∧ LDisk K dd ls lf lp S F U H ∧ DskOk S F U M ∧ U.length ≤ 150 ∧ Wt K H y (pageD first) ∧ PageOk first ∧ RH S M 0 r0 ∧ RH S M M r1 ∧
  (match pickH r0 r1 with
   | none => ∀ od lf' lp' H', Go [dd, ls, lp] H H' → H od = none → (H lf' = none ∧ H lp' = none) → OwnAt K od (openB S (pickH r0 r1) first) H' → LDisk K dd ls lf' lp' (S.set 0 (some ⟨1, 1 + lifeOf S, 0, first⟩)) (S.set 0 (some ⟨1, 1 + lifeOf S, 0, first⟩)) [] H' → Q (.ref od) H'
   | some _ => ∀ od H', Ex H H' → H od = none → OwnAt K od (openB S (pickH r0 r1) first) H' → Q (.ref od) H')
abbrev s_book : Stmt := top 42
abbrev nms_book : List Str := ["disk", "first", "life", "found", "entry"]
theorem sc_book : FnScope nms_book ["disk", "first"] (defScope s_book) := ⟨rfl, rfl, rfl, by decide +kernel, rfl, by decide +kernel, by decide +kernel⟩
theorem ok_book {f : Addr} {fd : FuncData} (F : Fun K "_law_book" "_law_book" s_book f fd) (hm : mg "_law_book" = some (.ref f)) (b : Binds K fd ["disk", "first"] []) (T : Bt mg) (c_read : Cal P w K mg base 3 "_law_read" (spReadL K)) (c_put : Cal P w K mg base 1 "_law_put" (spPutL K)) (c_safe : Cal P w K mg base 1 "_law_safe" (spSafe K)) : Cal P w K mg base 4 "_law_book" (spBookL K) := by
  refine cal_of F hm b sc_book (fun vs H Q E h => ?_) (fun cdv A outer s H vs Q E hr h => ?_)
  · obtain ⟨dd, ls, lf, lp, y, first, S, F, U, M, r0, r1, rfl, _⟩ := h
    rfl
  · obtain ⟨dd, ls, lf, lp, y, first, S, F, U, M, r0, r1, rfl, hd, od, hU, wy, hp, h0, h1, q⟩ := h
    have hu64 := pass_hu64 hr
    have hu1 : (A.deeper (PyProof.Rows.envOfC "_law_book" (defScope s_book) s.heap.objs.size f cdv)).units + 1 < cLine := by have := hr.un; omega
    refine ⟨_, (pss_cons (ps_set (i := 2) sc_book.nd rfl (by first | exact Or.inl rfl | exact Or.inr rfl) (pe_op (oAddK K) pe_int (pe_callB (cr_max rfl) (by rfl) T.max (by decide +kernel) (pa_cons (pe_op (oAddK K) (pe_lst (pa_cons pe_int pa_nil)) (pe_lc (own := [("entry", 4)]) rfl sc_book.nd (pi_list (pe_dget hu1 (pv 0) pe_str (fun _ _ => rfl))) (blkOk_by (N := nms_book) (sc := defScope s_book) (by decide +kernel)) (fun _ _ _ _ _ => (pg_name (i := 4) sc_book.nd rfl (by first | exact Or.inl rfl | exact Or.inr rfl))) (fun _ _ _ _ _ => (pts_one (pt_cmpR (oNeK K hu64) (pv 4) (pe_tup pa_nil) (nomark _)))) (fun _ _ _ _ _ => (pe_ix (oIxK K) (pv 4) pe_int (fun _ _ => rfl))))) pa_nil))))
    (pss_cons (ps_set (i := 3) sc_book.nd rfl (by first | exact Or.inl rfl | exact Or.inr rfl) (pe_c c_read hr (by decide) (by rfl) (pa_cons (pe_dget hu1 (pv 0) pe_str (fun _ _ => rfl)) pa_nil)))
    (pss_cons (ps_if (pt_cmpR op_isN1 (pv 3) pe_non (nomark _))
    (pss_cons (ps_expr (pe_c c_put hr (by decide) (by rfl) (pa_cons (pv 0) (pa_cons pe_int (pa_cons (pe_tup (pa_cons pe_int (pa_cons (pv 2) (pa_cons pe_int (pa_cons (pv 1) pa_nil))))) pa_nil)))))
    (pss_cons (ps_expr (pe_c c_safe hr (by decide) (by rfl) (pa_cons (pv 0) pa_nil)))
    (pss_one (ps_set (i := 3) sc_book.nd rfl (by first | exact Or.inl rfl | exact Or.inr rfl) (pe_tup (pa_cons pe_int (pa_cons pe_int (pa_cons pe_int (pa_cons (pv 1) pa_nil)))))))))
    pss_nil)
    (pss_one (ps_ret (pe_disp (pps_cons pe_str (pv 2) (pps_cons pe_str (pe_ix (oIxK K) (pv 3) pe_int (fun _ _ => rfl)) (pps_cons pe_str (pe_ix (oIxK K) (pv 3) pe_int (fun _ _ => rfl)) (pps_cons pe_str (pe_ix (oIxK K) (pv 3) pe_int (fun _ _ => rfl)) (pps_cons pe_str (pe_ix (oIxK K) (pv 3) pe_int (fun _ _ => rfl)) pps_nil))))) (by rfl) (by rfl) (fun z => by cases z) (by decide))))))), ?_⟩
    try dsimp only [cxOf]
    obtain ⟨xs, e1, w1⟩ := hd.s
    have m1 := od.m1
    have m2 := od.m2
    walk_at "y"
    refine x_mkl fun l4 H4 e4 n4 h4 => ?_
    walk_at "y"
    refine x_kdgetK (e4 _ _ hd.d) rfl ?_
    refine y_lcL [] (fun _ => True) (fun i ds => ds = (livesN (S.take i)).map fun (n : Nat) => PyData.int (n : Int)) (e4 _ _ e1) (by simp) (by rw [w1.len, List.length_map, od.ls]; omega) (by simp) keeps_true trivial rfl (fun i x H5 ds hx g5 _ hds ok no hok hno => ?_) (fun E5 acc ds H5 nE g5 _ hE wd t hds => ?_)
    · refine turn_nameT rfl ?_
      obtain ⟨ed, hed, we⟩ := w1.get hx
      rw [List.getElem?_map] at hed
      cases es : S[i]? with
      | none => rw [es] at hed; cases hed
      | some s0 =>
        rw [es] at hed
        cases hed
        have sok := od.s s0 (List.mem_of_getElem? es)
        have we := (we.ex e4).ex g5.ex
        walk_at "y"
        refine x_mkt (K := K) .nil fun u6 H6 e6 w6 => ?_
        refine x_ned (we.ex e6) w6 (lay_slot sok).shaped rfl ?_
        cases s0 with
        | none =>
          rw [show PyData.eqv (slD none) (.tuple []) = true from rfl]
          walk_at "y"
          refine hno H6 e6.go trivial ?_
          dsimp only
          rw [lives_snoc es, List.append_nil]
          exact hds
        | some e0 =>
          rw [show PyData.eqv (slD (some e0)) (.tuple []) = false from rfl]
          walk_at "y"
          refine x_ixd (n := 1) (d := .int (e0.l : Int)) (we.ex e6) rfl rfl fun u7 w7 => ?_
          refine hok u7 _ H6 e6.go trivial w7 rfl ?_
          dsimp only
          rw [lives_snoc es, hds, List.map_append]
          rfl
    · rw [w1.len, List.length_map, List.take_length] at hds
      subst hds
      have hacc : acc = ((livesN S).map fun (n : Nat) => (n : Int)).map V.int := by
        refine ints_of (K := K) (H := H5) ?_
        rw [List.map_map]
        exact wd
      have h45 := g5.ex _ _ h4
      refine x_addl h45 hE (by rw [hacc]; simp only [List.length_map, List.length_cons, List.length_nil]; have := lives_len S; rw [od.ls] at this; omega) fun p6 H6 e6 n6 h6 => ?_
      rw [hacc, show [V.int 0] ++ ((livesN S).map fun (n : Nat) => (n : Int)).map V.int = ((0 : Int) :: (livesN S).map fun (n : Nat) => (n : Int)).map V.int from rfl] at h6
      walk_at "y"
      refine x_max h6 (by simp) fun m hm1 hm2 => ?_
      rw [life_is hm1 hm2]
      walk_at "y"
      have E6 : Ex H H6 := e4.trans (g5.ex.trans e6)
      rw [show ((1 : Int) + (lifeOf S : Int)) = ((1 + lifeOf S : Nat) : Int) from by omega]
      refine x_kdgetK (E6 _ _ hd.d) rfl ?_
      walk_at "y"
      refine ⟨ls, xs, S, M, r0, r1, rfl, E6 _ _ e1, w1.ex E6, od.ls, m1, m2, od.s, h0, h1, fun u7 H7 e7 w7 => ?_⟩
      have E7 := E6.trans e7
      have hd7 := hd.go od E7.go (L := []) (by simp)
      have wy7 := wy.ex E7
      -- the dict, of any book
      have fin : ∀ (σ : L2.St) (H8 : Hp) (bk : Bk) (u : V), PageOk bk.page → σ[2]? = some (some (.int ((1 + lifeOf S : Nat) : Int))) → σ[3]? = some (some u) → Wt K H8 u (.tuple [.int (bk.gen : Int), .int (bk.half : Int), .int (bk.last : Int), pageD bk.page]) → bk.life = 1 + lifeOf S →
          (∀ od H', Ex H8 H' → H8 od = none → OwnAt K od bk H' → Q (.ref od) H') →
          tDisp [(tC (V.str "life"), tVar 2), (tC (V.str "generation"), tOp (rIxU K) (tVar 3) (tC (V.int 0))), (tC (V.str "half"), tOp (rIxU K) (tVar 3) (tC (V.int 1))), (tC (V.str "last"), tOp (rIxU K) (tVar 3) (tC (V.int 2))), (tC (V.str "page"), tOp (rIxU K) (tVar 3) (tC (V.int 3)))] σ H8 Q := fun σ H8 bk u pok z1 z2 wu hlf qq => by
        refine x_disp fun p H9 e9 n9 h9 => ?_
        have wu := wu.ex e9
        refine x_pcons (x_c (x_var z1 (x_pcons (x_c (x_op (x_var z2 (x_c (x_ixd (n := 0) (d := .int (bk.gen : Int)) wu rfl rfl fun v1 w1 => ?_))))))))
        cases w1
        refine x_pcons (x_c (x_op (x_var z2 (x_c (x_ixd (n := 1) (d := .int (bk.half : Int)) wu rfl rfl fun v2 w2 => ?_)))))
        cases w2
        refine x_pcons (x_c (x_op (x_var z2 (x_c (x_ixd (n := 2) (d := .int (bk.last : Int)) wu rfl rfl fun v3 w3 => ?_)))))
        cases w3
        refine x_pcons (x_c (x_op (x_var z2 (x_c (x_ixd (n := 3) (d := pageD bk.page) wu rfl rfl fun v4 w4 => x_pnil ?_)))))
        refine x_kdisp (ownF bk v4) _ h9 (by rw [show ownF bk v4 = [(sK "life", .int (bk.life : Int)), (sK "generation", .int (bk.gen : Int)), (sK "half", .int (bk.half : Int)), (sK "last", .int (bk.last : Int)), (sK "page", v4)] from rfl, hlf]; rfl) (by simp) rfl fun H10 g10 h10 => ?_
        replace h10 : H10 p = some (.dK (ownF bk v4)) := h10
        exact qq p H10 (ex_of_go e9 n9 g10) n9 ⟨v4, h10, w4.go g10 (lay_page pok).to⟩
      cases hpk : pickH r0 r1 with
      | none =>
        rw [hpk] at w7 q
        have q : ∀ od lf' lp' H', Go [dd, ls, lp] H H' → H od = none → (H lf' = none ∧ H lp' = none) → OwnAt K od ⟨1 + lifeOf S, 1, 0, 0, first⟩ H' → LDisk K dd ls lf' lp' (S.set 0 (some ⟨1, 1 + lifeOf S, 0, first⟩)) (S.set 0 (some ⟨1, 1 + lifeOf S, 0, first⟩)) [] H' → Q (.ref od) H' := q
        cases w7
        walk_at "y"
        refine x_mkt (.cons (.int _) (.cons (.int _) (.cons (.int _) (.cons wy7 .nil)))) fun u8 H8 e8 w8 => ?_
        walk_at "y"
        have hd8 := hd7.go od e8.go (L := []) (by simp)
        refine ⟨dd, ls, lf, lp, 0, u8, ⟨1, 1 + lifeOf S, 0, first⟩, S, F, U, M, rfl, hd8, od, by omega, w8, hp, fun H9 g9 h9 => ?_⟩
        have sset : ∀ s ∈ S.set 0 (some (⟨1, 1 + lifeOf S, 0, first⟩ : Entry)), SlotOk s := fun s hs => by
          rcases List.mem_or_eq_of_mem_set hs with z | z
          · exact od.s s z
          · rw [z]; intro e he; cases he; exact hp
        have od9 : DskOk (S.set 0 (some (⟨1, 1 + lifeOf S, 0, first⟩ : Entry))) F (U ++ [((0 : Nat), (⟨1, 1 + lifeOf S, 0, first⟩ : Entry))]) M := ⟨sset, od.f, fun p hp' => by
          rcases List.mem_append.mp hp' with z | z
          · exact od.u p z
          · rw [List.mem_singleton.mp z]; exact ⟨hp, by show 0 < 2 * M; omega⟩, by rw [List.length_set]; exact od.ls, od.lf, od.m1, od.m2, by rw [List.length_append]; simp; omega⟩
        walk_at "y"
        refine ⟨dd, ls, lf, lp, _, _, _, M, rfl, h9, od9, fun lf' lp' H10 g10 n10 m10 h10 => ?_⟩
        have wy10 : Wt K H10 y (pageD first) := ((wy7.ex e8).go g9 (lay_page hp).to).go g10 (lay_page hp).to
        have e78 := E7.trans e8
        have Ex9 : ∀ a, H9 a = none → H a = none := fun a ha => e78.free (go_free g9 (fun s hs => by
          obtain ⟨_, k1, _⟩ := h9.s
          obtain ⟨_, k2, _⟩ := h9.p
          simp only [List.mem_cons, List.not_mem_nil, or_false] at hs
          rcases hs with rfl | rfl
          · rw [k1]; simp
          · rw [k2]; simp) ha)
        have Ex10 : ∀ a, H10 a = none → H a = none := fun a ha => Ex9 a (go_free g10 (fun s hs => by
          rw [List.mem_singleton.mp hs, h10.d]; simp) ha)
        have od10 : DskOk (S.set 0 (some (⟨1, 1 + lifeOf S, 0, first⟩ : Entry))) (S.set 0 (some (⟨1, 1 + lifeOf S, 0, first⟩ : Entry))) [] M := ⟨sset, sset, by simp, od9.ls, od9.ls, od.m1, od.m2, by simp⟩
        walk_at "y"
        refine x_mkt (.cons (.int _) (.cons (.int _) (.cons (.int _) (.cons wy10 .nil)))) fun u11 H11 e11 w11 => ?_
        walk_at "y"
        exact fin _ H11 ⟨1 + lifeOf S, 1, 0, 0, first⟩ _ hp rfl rfl w11 rfl fun od' H' ex hn how => q od' lf' lp' H' (e78.go.trans ((g9.mono (by simp)).trans ((g10.mono (by simp)).trans (e11.trans ex).go))) (Ex10 _ (e11.free hn)) ⟨Ex9 _ n10, Ex9 _ m10⟩ how (h10.go od10 (e11.trans ex).go (L := []) (by simp))
      | some r =>
        obtain ⟨g, h, l, p⟩ := r
        rw [hpk] at w7 q
        have q : ∀ od H', Ex H H' → H od = none → OwnAt K od ⟨1 + lifeOf S, g, h, l, p⟩ H' → Q (.ref od) H' := q
        have w7' := w7
        cases w7' with
        | @tup a9 xs9 _ ea9 wa9 =>
        have pok : PageOk p := by
          unfold pickH at hpk
          split at hpk
          · cases hpk
          · cases hpk; cases h1 with
            | some rd => exact rd.page od.s
          · cases hpk; cases h0 with
            | some rd => exact rd.page od.s
          · split at hpk
            · cases hpk; cases h1 with
              | some rd => exact rd.page od.s
            · cases hpk; cases h0 with
              | some rd => exact rd.page od.s
        walk_at "y"
        exact fin _ H7 ⟨1 + lifeOf S, g, h, l, p⟩ _ pok rfl rfl w7 rfl fun od' H' ex hn how => q od' H' (E7.trans ex) (E7.free hn) how
/-! ### add -/
def spAddL (K : PySem.W.Frag) : Sp := fun vs H Q _ => ∃ dd ls lf lp od y p b S F U M, vs = [.ref dd, .ref od, y] ∧ LDisk K dd ls lf lp S F U H ∧ DskOk S F U M ∧ OwnAt K od b H ∧ PageOk b.page ∧ b.half ≤ 1 ∧ b.last < M ∧ Wt K H y (pageD p) ∧ PageOk p ∧ od ≠ dd ∧
  ∀ lf' lp' H', Go [dd, od, ls, lp] H H' → (lf' = lf ∨ H lf' = none) → (lp' = lp ∨ H lp' = none) → OwnAt K od (addB M b p) H' →
    LDisk K dd ls lf' lp' (S.set (addN M b) (some (addE M b p))) (if b.last + 1 < M then F else S) (if b.last + 1 < M then U ++ [(addN M b, addE M b p)] else [(addN M b, addE M b p)]) H' → Q .non H'
abbrev s_add : Stmt := top 43
abbrev nms_add : List Str := ["disk", "book", "row", "size", "thing"]
theorem sc_add : FnScope nms_add ["disk", "book", "row"] (defScope s_add) := ⟨rfl, rfl, rfl, by decide +kernel, rfl, by decide +kernel, by decide +kernel⟩
theorem ok_add {f : Addr} {fd : FuncData} (F : Fun K "_law_add" "_law_add" s_add f fd) (hm : mg "_law_add" = some (.ref f)) (b : Binds K fd ["disk", "book", "row"] []) (T : Bt mg) (c_over : Cal P w K mg base 1 "_law_over" (spOver K)) (c_put : Cal P w K mg base 1 "_law_put" (spPutL K)) (c_safe : Cal P w K mg base 1 "_law_safe" (spSafe K)) : Cal P w K mg base 2 "_law_add" (spAddL K) := by
  refine cal_of F hm b sc_add (fun vs H Q E h => ?_) (fun cdv A outer s H vs Q E hr h => ?_)
  · obtain ⟨dd, ls, lf, lp, od, y, p, b, S, F, U, M, rfl, _⟩ := h
    rfl
  · obtain ⟨dd, ls, lf, lp, od, y, p, b, S, F, U, M, rfl, hd, ok, ho, op, h1, h2, wy, hp, nod, q⟩ := h
    have hu64 := pass_hu64 hr
    have hu1 : (A.deeper (PyProof.Rows.envOfC "_law_add" (defScope s_add) s.heap.objs.size f cdv)).units + 1 < cLine := by have := hr.un; omega
    refine ⟨_, (pss_cons (ps_set (i := 3) sc_add.nd rfl (by first | exact Or.inl rfl | exact Or.inr rfl) (pe_op op_fdivN (pe_callB cLen (by rfl) T.len (by decide +kernel) (pa_cons (pe_dget hu1 (pv 0) pe_str (fun _ _ => rfl)) pa_nil)) pe_int))
    (pss_cons (ps_dput hu1 (pv 1) pe_str (pe_c c_over hr (by decide) (by rfl) (pa_cons (pe_dget hu1 (pv 1) pe_str (fun _ _ => rfl)) (pa_cons (pv 2) pa_nil))) rfl)
    (pss_cons (ps_asg (pe_tup (pa_cons (pv 2) (pa_cons (pe_op (oAddK K) (pe_dget hu1 (pv 1) pe_str (fun _ _ => rfl)) pe_int) pa_nil))) (pg_tup (n := 2) rfl (pgs_cons (pg_name (i := 4) sc_add.nd rfl (by first | exact Or.inl rfl | exact Or.inr rfl)) (pgs_cons (pg_sub (pv 1) pe_str (set_dict hu1)) pgs_nil))))
    (pss_cons (ps_if (pt_cmpR (oEqK K hu64) (pe_dget hu1 (pv 1) pe_str (fun _ _ => rfl)) (pv 3) (nomark _))
    (pss_cons (ps_expr (pe_c c_safe hr (by decide) (by rfl) (pa_cons (pv 0) pa_nil)))
    (pss_one (ps_asg (pe_tup (pa_cons (pe_dget hu1 (pv 1) pe_str (fun _ _ => rfl)) (pa_cons pe_int (pa_cons (pe_op op_sub pe_int (pe_dget hu1 (pv 1) pe_str (fun _ _ => rfl))) (pa_cons (pe_op (oAddK K) (pe_dget hu1 (pv 1) pe_str (fun _ _ => rfl)) pe_int) pa_nil))))) (pg_tup (n := 4) rfl (pgs_cons (pg_name (i := 4) sc_add.nd rfl (by first | exact Or.inl rfl | exact Or.inr rfl)) (pgs_cons (pg_sub (pv 1) pe_str (set_dict hu1)) (pgs_cons (pg_sub (pv 1) pe_str (set_dict hu1)) (pgs_cons (pg_sub (pv 1) pe_str (set_dict hu1)) pgs_nil))))))))
    pss_nil)
    (pss_one (ps_expr (pe_c c_put hr (by decide) (by rfl) (pa_cons (pv 0) (pa_cons (pe_op (oAddK K) (pe_op oMul (pe_dget hu1 (pv 1) pe_str (fun _ _ => rfl)) (pv 3)) (pe_dget hu1 (pv 1) pe_str (fun _ _ => rfl))) (pa_cons (pe_tup (pa_cons (pe_dget hu1 (pv 1) pe_str (fun _ _ => rfl)) (pa_cons (pe_dget hu1 (pv 1) pe_str (fun _ _ => rfl)) (pa_cons (pe_dget hu1 (pv 1) pe_str (fun _ _ => rfl)) (pa_cons (pv 4) pa_nil))))) pa_nil)))))))))), ?_⟩
    try dsimp only [cxOf]
    obtain ⟨xs, e1, w1⟩ := hd.s
    obtain ⟨v, eo, wv⟩ := ho
    have m1 := ok.m1
    have m2 := ok.m2
    have lx : xs.length = 2 * M := by rw [w1.len, List.length_map, ok.ls]
    have nls : od ≠ ls := fun z => by rw [z, e1] at eo; cases eo
    have nlf : od ≠ lf := fun z => by obtain ⟨_, k, _⟩ := hd.f; rw [z, k] at eo; cases eo
    have nlp : od ≠ lp := fun z => by obtain ⟨_, k, _⟩ := hd.p; rw [z, k] at eo; cases eo
    have opo : PageOk (over b.page p) := op.over hp
    walk_at "y"
    refine x_kdgetK hd.d rfl ?_
    walk_at "y"
    refine x_lenl e1 ?_
    walk_at "y"
    refine x_iC (cdiv2 _) ?_
    rw [lx, fdiv2, show 2 * M / 2 = M by omega]
    walk_at "y"
    refine x_kdgetK eo rfl ?_
    walk_at "y"
    refine ⟨v, y, b.page, p, rfl, wv, wy, op, hp, fun v2 H2 x2 w2 => ?_⟩
    walk_at "y"
    refine x_kdputK (x2 _ _ eo) (by simp) rfl fun H3 g3 h3 => ?_
    replace h3 : H3 od = some (.dK [(sK "life", .int (b.life : Int)), (sK "generation", .int (b.gen : Int)), (sK "half", .int (b.half : Int)), (sK "last", .int (b.last : Int)), (sK "page", v2)]) := h3
    have w3 : Wt K H3 v2 (pageD (over b.page p)) := w2.go g3 (lay_page opo).to
    have wy3 : Wt K H3 y (pageD p) := (wy.ex x2).go g3 (lay_page hp).to
    have hd3 : LDisk K dd ls lf lp S F U H3 := hd.go ok (x2.go.trans g3) (by simp [Ne.symm nod, Ne.symm nls, Ne.symm nlf, Ne.symm nlp])
    walk_at "y"
    refine x_kdgetK h3 rfl ?_
    walk_at "y"
    refine x_mkr fun p4 H4 x4 n4 h4 => ?_
    walk_at "y"
    refine x_gtup h4 rfl ?_
    walk_at "y"
    refine x_setD (x4 _ _ h3) (by simp) rfl fun H5 g5 h5 => ?_
    replace h5 : H5 od = some (.dK [(sK "life", .int (b.life : Int)), (sK "generation", .int (b.gen : Int)), (sK "half", .int (b.half : Int)), (sK "last", .int ((b.last : Int) + 1)), (sK "page", v2)]) := h5
    have G35 : Go [od] H3 H5 := x4.go.trans g5
    have w5 : Wt K H5 v2 (pageD (over b.page p)) := w3.go G35 (lay_page opo).to
    have wy5 : Wt K H5 y (pageD p) := wy3.go G35 (lay_page hp).to
    have hd5 : LDisk K dd ls lf lp S F U H5 := hd3.go ok G35 (by simp [Ne.symm nod, Ne.symm nls, Ne.symm nlf, Ne.symm nlp])
    have G5 : Go [od] H H5 := x2.go.trans (g3.trans G35)
    have frO : ∀ a, H5 a = none → H a = none := fun a ha => go_free G5 (fun s hs => by rw [List.mem_singleton.mp hs, h5]; simp) ha
    walk_at "y"
    refine x_kdgetK h5 rfl ?_
    walk_at "y"
    -- the end: what is put
    by_cases c : b.last + 1 < M
    · rw [show decide ((b.last : Int) + 1 = M) = false from decide_eq_false (by omega)]
      unfold addB addE addN at q
      simp only [if_pos c] at q
      walk_at "y"
      refine x_kdgetK h5 rfl ?_
      walk_at "y"
      refine x_muli (cmulR _ (by omega)) ?_
      walk_at "y"
      refine x_kdgetK h5 rfl ?_
      walk_at "y"
      refine x_kdgetK h5 rfl ?_
      walk_at "y"
      refine x_kdgetK h5 rfl ?_
      walk_at "y"
      refine x_kdgetK h5 rfl ?_
      walk_at "y"
      rw [show ((b.last : Int) + 1) = ((b.last + 1 : Nat) : Int) from by omega] at h5 ⊢
      refine x_mkt (.cons (.int _) (.cons (.int _) (.cons (.int _) (.cons wy5 .nil)))) fun u6 H6 x6 w6 => ?_
      walk_at "y"
      rw [show ((b.half : Int) * (M : Int) + ((b.last + 1 : Nat) : Int)) = ((b.half * M + (b.last + 1) : Nat) : Int) from by push_cast; rfl]
      refine ⟨dd, ls, lf, lp, b.half * M + (b.last + 1), u6, ⟨b.gen, b.life, b.last + 1, p⟩, S, F, U, M, rfl, hd5.go ok x6.go (L := []) (by simp), ok, place_lt h1 c, w6, hp, fun H7 g7 h7 => ?_⟩
      walk_at "y"
      have how : OwnAt K od ⟨b.life, b.gen, b.half, b.last + 1, over b.page p⟩ H7 := ⟨v2, g7.keep od _ (by simp [nls, nlp]) (x6 _ _ h5), (w5.ex x6).go g7 (lay_page opo).to⟩
      exact q lf lp H7 ((G5.mono (by simp)).trans (x6.go.trans (g7.mono (by simp)))) (.inl rfl) (.inl rfl) how h7
    · rw [show decide ((b.last : Int) + 1 = M) = true from decide_eq_true (by omega)]
      unfold addB addE addN at q
      simp only [if_neg c] at q
      walk_at "y"
      refine ⟨dd, ls, lf, lp, S, F, U, M, rfl, hd5, ok, fun lf' lp' H6 g6 n6 m6 h6 => ?_⟩
      have ok6 : DskOk S S [] M := ⟨ok.s, ok.s, by simp, ok.ls, ok.ls, ok.m1, ok.m2, by simp⟩
      have h56 := g6.keep od _ (by simp [nod]) h5
      have w6 : Wt K H6 v2 (pageD (over b.page p)) := w5.go g6 (lay_page opo).to
      walk_at "y"
      refine x_kdgetK h56 rfl ?_
      walk_at "y"
      refine x_kdgetK h56 rfl ?_
      walk_at "y"
      refine x_kdgetK h56 rfl ?_
      walk_at "y"
      refine x_mkr fun p7 H7 x7 n7 h7 => ?_
      walk_at "y"
      refine x_gtup h7 rfl ?_
      walk_at "y"
      refine x_setD (x7 _ _ h56) (by simp) rfl fun H8 g8 h8 => ?_
      replace h8 : H8 od = some (.dK [(sK "life", .int (b.life : Int)), (sK "generation", .int (b.gen : Int)), (sK "half", .int (b.half : Int)), (sK "last", .int 0), (sK "page", v2)]) := h8
      walk_at "y"
      refine x_setD h8 (by simp) rfl fun H9 g9 h9 => ?_
      replace h9 : H9 od = some (.dK [(sK "life", .int (b.life : Int)), (sK "generation", .int (b.gen : Int)), (sK "half", .int (1 - (b.half : Int))), (sK "last", .int 0), (sK "page", v2)]) := h9
      walk_at "y"
      refine x_setD h9 (by simp) rfl fun H10 g10 h10 => ?_
      replace h10 : H10 od = some (.dK [(sK "life", .int (b.life : Int)), (sK "generation", .int ((b.gen : Int) + 1)), (sK "half", .int (1 - (b.half : Int))), (sK "last", .int 0), (sK "page", v2)]) := h10
      rw [show (1 - (b.half : Int)) = ((1 - b.half : Nat) : Int) from by omega, show ((b.gen : Int) + 1) = ((b.gen + 1 : Nat) : Int) from by omega] at h10
      have G710 : Go [od] H7 H10 := (g8.trans g9).trans g10
      have w10 : Wt K H10 v2 (pageD (over b.page p)) := (w6.ex x7).go G710 (lay_page opo).to
      have nod6 : od ∉ [dd, ls, lf', lp'] := by
        obtain ⟨_, k1, _⟩ := h6.f
        obtain ⟨_, k2, _⟩ := h6.p
        simp only [List.mem_cons, List.not_mem_nil, or_false, not_or]
        refine ⟨nod, nls, fun z => ?_, fun z => ?_⟩
        · rw [z, k1] at h56; cases h56
        · rw [z, k2] at h56; cases h56
      simp only [List.mem_cons, List.not_mem_nil, or_false, not_or] at nod6
      have hd10 : LDisk K dd ls lf' lp' S S [] H10 := (h6.go ok6 x7.go (L := []) (by simp)).go ok6 G710 (by simp [Ne.symm nod6.1, Ne.symm nod6.2.1, Ne.symm nod6.2.2.1, Ne.symm nod6.2.2.2])
      walk_at "y"
      refine x_kdgetK h10 rfl ?_
      walk_at "y"
      refine x_muli (cmulR _ (by omega)) ?_
      walk_at "y"
      refine x_kdgetK h10 rfl ?_
      walk_at "y"
      refine x_kdgetK h10 rfl ?_
      walk_at "y"
      refine x_kdgetK h10 rfl ?_
      walk_at "y"
      refine x_kdgetK h10 rfl ?_
      walk_at "y"
      refine x_mkt (.cons (.int _) (.cons (.int _) (.cons (.int _) (.cons w10 .nil)))) fun u11 H11 x11 w11 => ?_
      walk_at "y"
      rw [show (((1 - b.half : Nat) : Int) * (M : Int) + 0) = (((1 - b.half) * M + 0 : Nat) : Int) from by push_cast; rfl]
      refine ⟨dd, ls, lf', lp', (1 - b.half) * M + 0, u11, ⟨b.gen + 1, b.life, 0, over b.page p⟩, S, S, [], M, rfl, hd10.go ok6 x11.go (L := []) (by simp), ok6, place_lt (by omega) (by omega), w11, opo, fun H12 g12 h12 => ?_⟩
      walk_at "y"
      have how : OwnAt K od ⟨b.life, b.gen + 1, 1 - b.half, 0, over b.page p⟩ H12 := ⟨v2, g12.keep od _ (by simp [nls, nod6.2.2.2]) (x11 _ _ h10), (w10.ex x11).go g12 (lay_page opo).to⟩
      have GG : Go (lp' :: [dd, od, ls, lp]) H H12 := (G5.mono (by simp)).trans ((g6.mono (by simp)).trans (x7.go.trans ((G710.mono (by simp)).trans (x11.go.trans (g12.mono (by simp))))))
      exact q lf' lp' H12 (Go.fresh (Ex.refl _) (frO _ m6) GG) (.inr (frO _ n6)) (.inr (frO _ m6)) how h12
end
end Y
/-! part C7 -/
/-! Which puts are kept; whether disk and book stand as told. -/
namespace Y
open PySem L2
section
variable {K : PySem.W.Frag} {σ : L2.St} {H : Hp} {Q : VK}
def kRg (a b : Int) (H1 : Hp) (Q : VK) : Prop := RgOk a b ∧ ∀ q, H1 q = none → Q (.ref q) (upd H1 q (.lst (rgV a b)))
theorem x_lstRg {te : L2.St → Hp → (Int → Int → Hp → Prop) → Prop} (q : te σ H fun a b H1 => kRg a b H1 Q) : tLstRg te σ H Q := q
theorem x_rg1 {ta : TE} {Q : Int → Int → Hp → Prop} (q : ta σ H fun x H1 => ∃ n, x = .int n ∧ Q 0 n H1) : tRg1 ta σ H Q := q
theorem x_rg2 {ta tb : TE} {Q : Int → Int → Hp → Prop} (q : ta σ H fun x H1 => tb σ H1 fun y H2 => ∃ i j, x = .int i ∧ y = .int j ∧ Q i j H2) : tRg2 ta tb σ H Q := q
def kRg3 (vs : List V) (H1 : Hp) (Q : VK) : Prop := ∃ (i j c : Int) (n : Nat), vs = [.int i, .int j, .int c] ∧ RgC i j c n ∧ n ≤ 2 ^ 24 ∧ ∀ q, H1 q = none → Q (.ref q) (upd H1 q (.lst ((List.range n).map fun (k : Nat) => V.int (i + (k : Int) * c))))
theorem x_rg3 {ta : TA} (q : ta σ H fun vs H1 => kRg3 vs H1 Q) : tLstRg3 ta σ H Q := q
end
local macro_rules | `(tactic| walk_at "y1") => `(tactic| (first
  | (with_reducible refine x_seq ?_) | (with_reducible refine x_asg ?_) | (with_reducible refine x_name ?_) | (with_reducible refine x_drop ?_) | (with_reducible refine x_ret ?_) | (with_reducible refine x_retN ?_)
  | (with_reducible refine x_next ?_) | (with_reducible refine x_brk ?_) | (with_reducible refine x_ifS ?_)
  | (with_reducible refine x_c ?_) | (with_reducible refine x_op ?_) | (with_reducible refine x_un ?_) | (with_reducible refine x_cb ?_) | (with_reducible refine x_cons ?_) | (with_reducible refine x_nil ?_)
  | (with_reducible refine x_call ?_) | (with_reducible refine x_tup ?_) | (with_reducible refine x_lst ?_) | (with_reducible refine x_sl ?_) | (with_reducible refine x_nopart ?_) | (with_reducible refine x_part ?_)
  | (with_reducible refine x_andV ?_) | (with_reducible refine x_orV ?_) | (with_reducible refine x_notV ?_) | (with_reducible refine x_if ?_) | (with_reducible refine x_test ?_) | (with_reducible refine x_tb ?_)
  | (with_reducible refine x_and ?_) | (with_reducible refine x_or ?_) | (with_reducible refine x_not ?_) | (with_reducible refine x_chain ?_) | (with_reducible refine x_exbl ?_) | (with_reducible refine x_exint ?_)
  | (with_reducible refine x_fld ?_) | (with_reducible refine x_sfld ?_) | (with_reducible refine x_par ?_) | (with_reducible refine x_par3 ?_) | (with_reducible refine x_dget ?_) | (with_reducible refine x_dput ?_)
  | (with_reducible refine x_bm ?_) | (with_reducible refine x_bm0 ?_) | (with_reducible refine x_pair ?_) | (with_reducible refine x_tri ?_) | (with_reducible refine x_int ?_) | (with_reducible refine x_intb ?_) | (with_reducible refine x_abs ?_) | (with_reducible refine x_isN ?_) | (with_reducible refine x_notN ?_) | (with_reducible refine x_meth ?_) | (with_reducible refine x_make ?_)
  | (with_reducible refine x_ite1 ?_) | (with_reducible refine x_ite0 ?_)
  | (with_reducible refine x_addi ?_) | (with_reducible refine x_neg ?_) | (with_reducible refine x_i0 ?_) | (with_reducible refine x_eqi ?_) | (with_reducible refine x_eqs ?_) | (with_reducible refine x_eqb ?_) | (with_reducible refine x_nei ?_) | (with_reducible refine x_lti ?_)
  | (with_reducible refine x_forL ?_) | (with_reducible refine x_forT ?_) | (with_reducible refine x_forR ?_) | (with_reducible refine x_forR2 ?_) | (with_reducible refine x_lcL ?_) | (with_reducible refine x_lcT ?_) | (with_reducible refine x_lcR ?_)
  | (with_reducible refine x_yes ?_) | (with_reducible refine x_pcons ?_) | (with_reducible refine x_pnil ?_) | (with_reducible refine x_gcons ?_) | (with_reducible refine x_gnil ?_) | (with_reducible refine x_gattr ?_) | (with_reducible refine x_raise ?_) | (with_reducible refine x_gsub ?_) | (with_reducible refine x_fldaug ?_) | (with_reducible refine x_radd ?_) | (with_reducible refine x_ipi ?_) | ((with_reducible refine x_aug (x := ?vv) ?hh ?qq); (case hh => exact rfl))
  | ((with_reducible refine x_iteA ?hc ?q); (case hc => exact rfl)) | ((with_reducible refine x_iteB ?hc ?q); (case hc => exact rfl))
  | ((with_reducible refine x_var (v := ?vv) ?hh ?qq); (case hh => exact rfl))
  | ((with_reducible refine r_isInt (d := ?dd) ?hh ?qq); (case hh => assumption)) | ((with_reducible refine r_isBool (d := ?dd) ?hh ?qq); (case hh => assumption)) | ((with_reducible refine r_isTup (d := ?dd) ?hh ?qq); (case hh => assumption))
  | ((with_reducible refine r_isStr (d := ?dd) ?hh ?qq); (case hh => assumption)) | ((with_reducible refine r_isLst (d := ?dd) ?hh ?qq); (case hh => assumption))))
local macro_rules | `(tactic| walk_at "y") => `(tactic| (repeat (walk_at "y1")))
theorem rg2a : ∀ m : Fin 201, Builtin.Range.small 0 (m.val : Int) 2 = true ∧ Builtin.Range.rangeSize 0 (m.val : Int) 2 = (((m.val + 1) / 2 : Nat) : Int) := by decide +kernel
theorem rg2b : ∀ m : Fin 201, Builtin.Range.small 1 (m.val : Int) 2 = true ∧ Builtin.Range.rangeSize 1 (m.val : Int) 2 = ((m.val / 2 : Nat) : Int) := by decide +kernel
theorem asc_range (m : Nat) : Asc (List.range m) m := ⟨List.pairwise_lt_range, fun n h => List.mem_range.mp h⟩
theorem asc_range' (a m : Nat) (h : a ≤ m) : Asc (List.range' a (m - a)) m := ⟨List.pairwise_lt_range', fun n hn => by
  have := List.mem_range'_1.mp hn
  omega⟩
theorem asc_filter {ns : List Nat} {m : Nat} (h : Asc ns m) (p : Nat → Bool) : Asc (ns.filter p) m := ⟨h.1.filter p, fun n hn => h.2 n (List.mem_filter.mp hn).1⟩
theorem asc_two {a n m : Nat} (h : ∀ k, k < n → a + k * 2 < m) : Asc ((List.range n).map fun k => a + k * 2) m := ⟨by
  rw [List.pairwise_map]
  exact List.pairwise_lt_range.imp fun h => by omega, fun x hx => by
  obtain ⟨k, hk, rfl⟩ := List.mem_map.mp hx
  exact h k (List.mem_range.mp hk)⟩
theorem rg_nums (a b : Nat) : rgV (a : Int) (b : Int) = nums (List.range' a (b - a)) := by
  unfold rgV nums
  rw [show ((b : Int) - (a : Int)).toNat = b - a by omega, List.range'_eq_map_range, List.map_map]
  rfl
theorem rg3_nums (a n : Nat) : ((List.range n).map fun (k : Nat) => V.int ((a : Int) + (k : Int) * 2)) = nums ((List.range n).map fun k => a + k * 2) := by
  unfold nums
  rw [List.map_map]
  refine List.map_congr_left fun k _ => ?_
  show V.int _ = V.int _
  congr 1
section
variable {P : Program} {w : World} {K : PySem.W.Frag} {mg : Str → Option Value} {base : Heap}
/-- a new list of places -/
def RI (H0 H : Hp) (m : Nat) (x : V) : Prop := ∃ p ns, x = .ref p ∧ H p = some (.lst (nums ns)) ∧ Asc ns m ∧ H0 p = none
theorem RI.go {H0 H H' : Hp} {m : Nat} {x : V} {S : List Addr} (h : RI H0 H m x) (g : Go S H H') (n : ∀ s ∈ S, H0 s ≠ none) : RI H0 H' m x := by
  obtain ⟨p, ns, e, e1, e2, e3⟩ := h
  exact ⟨p, ns, e, g.keep p _ (fun z => n p z e3) e1, e2, e3⟩
def spSome : Sp := fun vs H Q _ => ∃ (b : Addr) (m : Nat), vs = [.ref b, .int (m : Int)] ∧ BoxAt b H ∧ m ≤ 200 ∧ ∀ x H', Go [b] H H' → BoxAt b H' → RI H H' m x → Q x H'
abbrev s_some : Stmt := top 45
abbrev nms_some : List Str := ["box", "many", "kind", "one", "rows", "k"]
theorem sc_some : FnScope nms_some ["box", "many"] (defScope s_some) := ⟨rfl, rfl, rfl, by decide +kernel, rfl, by decide +kernel, by decide +kernel⟩
theorem ok_some {f : Addr} {fd : FuncData} (F : Fun K "_law_some" "_law_some" s_some f fd) (hm : mg "_law_some" = some (.ref f)) (b : Binds K fd ["box", "many"] []) (T : Bt mg) (c_take : Cal P w K mg base 1 "_law_take" spTake) : Cal P w K mg base 2 "_law_some" spSome := by
  refine cal_of F hm b sc_some (fun vs H Q E h => ?_) (fun cdv A outer s H vs Q E hr h => ?_)
  · obtain ⟨b, m, rfl, _⟩ := h
    rfl
  · obtain ⟨b, m, rfl, hb, hm, q⟩ := h
    have hu64 := pass_hu64 hr
    refine ⟨_, (pss_cons (ps_asg (pe_tup (pa_cons (pe_c c_take hr (by decide) (by rfl) (pa_cons (pv 0) (pa_cons pe_int pa_nil))) (pa_cons (pe_c c_take hr (by decide) (by rfl) (pa_cons (pv 0) (pa_cons (pe_callB (cr_max rfl) (by rfl) T.max (by decide +kernel) (pa_cons (pe_lst (pa_cons pe_int (pa_cons (pv 1) pa_nil))) pa_nil)) pa_nil))) pa_nil))) (pg_tup (n := 2) rfl (pgs_cons (pg_name (i := 2) sc_some.nd rfl (by first | exact Or.inl rfl | exact Or.inr rfl)) (pgs_cons (pg_name (i := 3) sc_some.nd rfl (by first | exact Or.inl rfl | exact Or.inr rfl)) pgs_nil))))
    (pss_cons (ps_set (i := 4) sc_some.nd rfl (by first | exact Or.inl rfl | exact Or.inr rfl) (pe_lst (pa_cons (pe_lst pa_nil) (pa_cons (pe_listRg rfl (by rfl) T.list (prg_1 (by rfl) T.range (pv 1))) (pa_cons (pe_lc (own := [("k", 5)]) rfl sc_some.nd (pi_range1 (by rfl) T.range (pa_cons (pv 1) pa_nil)) (blkOk_by (N := nms_some) (sc := defScope s_some) (by decide +kernel)) (fun _ _ _ _ _ => (pg_name (i := 5) sc_some.nd rfl (by first | exact Or.inl rfl | exact Or.inr rfl))) (fun _ _ _ _ _ => (pts_one (pt_cmpR (oNeK K hu64) (pv 5) (pv 3) (nomark _)))) (fun _ _ _ _ _ => (pv 5))) (pa_cons (pe_slice (oSlK K) (pe_lst (pa_cons (pv 3) pa_nil)) po_none (po_some (pv 1))) (pa_cons (pe_listRg3 rfl (by rfl) T.list (by rfl) T.range (pa_cons pe_int (pa_cons (pv 1) (pa_cons pe_int pa_nil)))) pa_nil)))))))
    (pss_cons (ps_set (i := 4) sc_some.nd rfl (by first | exact Or.inl rfl | exact Or.inr rfl) (pe_op (oAddK K) (pv 4) (pe_lst (pa_cons (pe_listRg3 rfl (by rfl) T.list (by rfl) T.range (pa_cons pe_int (pa_cons (pv 1) (pa_cons pe_int pa_nil)))) (pa_cons (pe_listRg rfl (by rfl) T.list (prg_2 (by rfl) T.range (pv 3) (pv 1))) (pa_cons (pe_lc (own := [("k", 5)]) rfl sc_some.nd (pi_range1 (by rfl) T.range (pa_cons (pv 1) pa_nil)) (blkOk_by (N := nms_some) (sc := defScope s_some) (by decide +kernel)) (fun _ _ _ _ _ => (pg_name (i := 5) sc_some.nd rfl (by first | exact Or.inl rfl | exact Or.inr rfl))) (fun _ _ _ _ _ => (pts_one (pt_cmpR (oEqK K hu64) (pe_c c_take hr (by decide) (by rfl) (pa_cons (pv 0) (pa_cons pe_int pa_nil))) pe_int (nomark _)))) (fun _ _ _ _ _ => (pv 5))) pa_nil))))))
    (pss_one (ps_ret (pe_ix (oIxK K) (pv 4) (pv 2) (fun _ _ => rfl))))))), ?_⟩
    try dsimp only [cxOf]
    have nb := box_ne hb
    have nS : ∀ s ∈ [b], H s ≠ none := fun s hs => by rw [List.mem_singleton.mp hs]; exact nb
    walk_at "y"
    refine ⟨b, 8, rfl, hb, by decide, by decide, fun kd H1 hk g1 hb1 => ?_⟩
    walk_at "y"
    refine x_mkl fun p2 H2 e2 n2 h2 => ?_
    walk_at "y"
    refine x_max (ns := [1, (m : Int)]) h2 (by simp) fun mx hm1 hm2 => ?_
    obtain ⟨mn, rfl, hmn⟩ : ∃ mn : Nat, mx = (mn : Int) ∧ 0 < mn ∧ m ≤ mn ∧ mn ≤ 200 ∧ (mn = 1 ∨ mn = m) := by
      have a1 := hm2 1 (by simp)
      have a2 := hm2 (m : Int) (by simp)
      simp only [List.mem_cons, List.not_mem_nil, or_false] at hm1
      exact ⟨mx.toNat, by omega, by omega, by omega, by omega, by omega⟩
    have hb2 := hb1.go e2.go (S := []) (by simp)
    refine ⟨b, mn, rfl, hb2, hmn.1, by omega, fun one H3 ho g3 hb3 => ?_⟩
    walk_at "y"
    have fr : ∀ {H' : Hp} {p : Addr}, Go [b] H H' → BoxAt b H' → H' p = none → H p = none := fun g hb' hp => go_free g (fun s hs => by rw [List.mem_singleton.mp hs]; exact box_ne hb') hp
    refine x_mkr fun pt Ht et nt ht => ?_
    refine x_gtup ht rfl ?_
    have G3 : Go [b] H Ht := g1.trans (e2.go.trans (g3.trans et.go))
    have hb3 : BoxAt b Ht := hb3.go et.go (S := []) (by simp)
    clear g3
    walk_at "y"
    refine x_mkl (vs := []) fun p4 H4 e4 n4 h4 => ?_
    have r4 : RI H H4 m (.ref p4) := ⟨p4, [], rfl, h4, ⟨.nil, by simp⟩, fr G3 hb3 n4⟩
    walk_at "y"
    refine x_lstRg (x_rg1 ?_)
    walk_at "y"
    refine ⟨RgOk.of_le (by omega) (by omega) (by omega) (by omega), fun p5 n5 => ?_⟩
    have G4 : Go [b] H H4 := G3.trans e4.go
    have hb4 := hb3.go e4.go (S := []) (by simp)
    have x5 : Ex H4 (upd H4 p5 (.lst (rgV 0 (m : Int)))) := Ex.new n5
    have r5 : RI H (upd H4 p5 (.lst (rgV 0 (m : Int)))) m (.ref p5) := ⟨p5, _, rfl, by rw [upd_same]; exact congrArg (fun l => some (HO.lst l)) (rg_nums 0 m), asc_range' 0 m (Nat.zero_le _), fr G4 hb4 n5⟩
    revert x5 r5
    generalize upd H4 p5 (.lst (rgV 0 (m : Int))) = H5
    intro x5 r5
    have G5 : Go [b] H H5 := G4.trans x5.go
    have hb5 := hb4.go x5.go (S := []) (by simp)
    walk_at "y"
    refine y_lcR (K := K) [] (fun _ => True) (fun i ds => ds = numsD ((List.range i).filter fun k => decide (k ≠ one))) m (by omega) (by simp) keeps_true trivial rfl (fun i Ha ds hi ga _ hds ok no hok hno => ?_) (fun p6 acc ds H6 n6 g6 _ h6 w6 t6 hds => ?_)
    · refine turn_nameT rfl ?_
      have e : (List.range (i + 1)).filter (fun k => decide (k ≠ one)) = (List.range i).filter (fun k => decide (k ≠ one)) ++ (if i = one then [] else [i]) := by
        rw [List.range_succ, List.filter_append]
        congr 1
        by_cases c : i = one
        · simp [c]
        · simp [c]
      walk_at "y"
      by_cases c : i = one
      · rw [show decide ((i : Int) = one) = true from decide_eq_true (by omega)]
        walk_at "y"
        refine hno Ha (Go.refl _ _) trivial ?_
        dsimp only
        rw [e, if_pos c, List.append_nil]
        exact hds
      · rw [show decide ((i : Int) = one) = false from decide_eq_false (by omega)]
        walk_at "y"
        refine hok _ (.int (i : Int)) Ha (Go.refl _ _) trivial (.int _) rfl ?_
        dsimp only
        rw [e, if_neg c, hds]
        unfold numsD
        rw [List.map_append]
        rfl
    have hds : ds = numsD ((List.range m).filter fun k => decide (k ≠ one)) := hds
    subst hds
    rw [nums_of w6] at h6
    have r6 : RI H H6 m (.ref p6) := ⟨p6, _, rfl, h6, asc_filter (asc_range m) _, fr G5 hb5 n6⟩
    have G6 : Go [b] H H6 := G5.trans g6.ex.go
    have hb6 := hb5.go g6.ex.go (S := []) (by simp)
    walk_at "y"
    refine x_mkl fun p7 H7 e7 n7 h7 => ?_
    walk_at "y"
    refine x_sll h7 fun p8 H8 e8 n8 h8 => ?_
    have hc : cutV [V.int (one : Int)] none (some (m : Int)) = nums (if m = 0 then [] else [one]) := by
      unfold cutV
      rw [HT.sIx_none, HT.sIx_nat]
      by_cases c : m = 0
      · rw [if_pos c]; subst c; rfl
      · rw [if_neg c, show min m [V.int (one : Int)].length = 1 from by simp; omega]
        rfl
    rw [hc] at h8
    have G7 := G6.trans e7.go
    have hb7 := hb6.go e7.go (S := []) (by simp)
    have r8 : RI H H8 m (.ref p8) := ⟨p8, _, rfl, h8, by
      by_cases c : m = 0
      · rw [if_pos c]; exact ⟨.nil, by simp⟩
      · rw [if_neg c]
        refine ⟨by simp, fun n hn => ?_⟩
        rw [List.mem_singleton.mp hn]
        omega, fr G7 hb7 n8⟩
    have G8 := G7.trans e8.go
    have hb8 := hb7.go e8.go (S := []) (by simp)
    walk_at "y"
    refine x_rg3 ?_
    walk_at "y"
    have ra := rg2a ⟨m, by omega⟩
    refine ⟨0, (m : Int), 2, (m + 1) / 2, rfl, ⟨by decide, by decide, ra.1, ra.2⟩, by omega, fun p9 n9 => ?_⟩
    have x9 : Ex H8 (upd H8 p9 (.lst ((List.range ((m + 1) / 2)).map fun (k : Nat) => V.int ((0 : Int) + (k : Int) * 2)))) := Ex.new n9
    have r9 : RI H (upd H8 p9 (.lst ((List.range ((m + 1) / 2)).map fun (k : Nat) => V.int ((0 : Int) + (k : Int) * 2)))) m (.ref p9) := ⟨p9, _, rfl, by rw [upd_same]; exact congrArg (fun l => some (HO.lst l)) (rg3_nums 0 _), asc_two (fun k hk => by omega), fr G8 hb8 n9⟩
    revert x9 r9
    generalize upd H8 p9 (.lst ((List.range ((m + 1) / 2)).map fun (k : Nat) => V.int ((0 : Int) + (k : Int) * 2))) = H9
    intro x9 r9
    have G9 := G8.trans x9.go
    have hb9 := hb8.go x9.go (S := []) (by simp)
    walk_at "y"
    refine x_mkl fun pa Ha ea na ha => ?_
    have Ga := G9.trans ea.go
    have hba := hb9.go ea.go (S := []) (by simp)
    walk_at "y"
    refine x_rg3 ?_
    walk_at "y"
    have rb := rg2b ⟨m, by omega⟩
    refine ⟨1, (m : Int), 2, m / 2, rfl, ⟨by decide, by decide, rb.1, rb.2⟩, by omega, fun pb nb1 => ?_⟩
    have xb : Ex Ha (upd Ha pb (.lst ((List.range (m / 2)).map fun (k : Nat) => V.int ((1 : Int) + (k : Int) * 2)))) := Ex.new nb1
    have rb : RI H (upd Ha pb (.lst ((List.range (m / 2)).map fun (k : Nat) => V.int ((1 : Int) + (k : Int) * 2)))) m (.ref pb) := ⟨pb, _, rfl, by rw [upd_same]; exact congrArg (fun l => some (HO.lst l)) (rg3_nums 1 _), asc_two (fun k hk => by omega), fr Ga hba nb1⟩
    revert xb rb
    generalize upd Ha pb (.lst ((List.range (m / 2)).map fun (k : Nat) => V.int ((1 : Int) + (k : Int) * 2))) = Hb
    intro xb rb
    have Gb := Ga.trans xb.go
    have hbb := hba.go xb.go (S := []) (by simp)
    walk_at "y"
    refine x_lstRg (x_rg2 ?_)
    walk_at "y"
    refine ⟨_, _, rfl, rfl, RgOk.of_le (by omega) (by omega) (by omega) (by omega), fun pc nc => ?_⟩
    have xc : Ex Hb (upd Hb pc (.lst (rgV (one : Int) (m : Int)))) := Ex.new nc
    have rc : RI H (upd Hb pc (.lst (rgV (one : Int) (m : Int)))) m (.ref pc) := ⟨pc, List.range' one (m - one), rfl, by rw [upd_same]; exact congrArg (fun l => some (HO.lst l)) (rg_nums one m), by
      by_cases c : one ≤ m
      · exact asc_range' one m c
      · rw [show m - one = 0 by omega]; exact ⟨.nil, by simp⟩, fr Gb hbb nc⟩
    revert xc rc
    generalize upd Hb pc (.lst (rgV (one : Int) (m : Int))) = Hc
    intro xc rc
    have Gc := Gb.trans xc.go
    have hbc := hbb.go xc.go (S := []) (by simp)
    walk_at "y"
    refine y_lcR (K := K) [b] (fun H' => BoxAt b H') (fun i ds => ∃ ns, ds = numsD ns ∧ Asc ns i) m (by omega) (by intro z hz; rw [List.mem_singleton.mp hz]; exact box_ne hbc) (keeps_box hbc) hbc ⟨[], rfl, .nil, by simp⟩ (fun i Hd ds hi gd hbd hds ok no hok hno => ?_) (fun pe acc ds He ne ge hbe he we te hds => ?_)
    · obtain ⟨ns, rfl, hns⟩ := hds
      refine turn_nameT rfl ?_
      walk_at "y"
      refine ⟨b, 2, rfl, hbd, by decide, by decide, fun r Hf hr gf hbf => ?_⟩
      walk_at "y"
      by_cases c : r = 0
      · rw [show decide ((r : Int) = 0) = true from decide_eq_true (by omega)]
        walk_at "y"
        refine hok _ (.int (i : Int)) Hf gf hbf (.int _) rfl ⟨ns ++ [i], by unfold numsD; rw [List.map_append]; rfl, ?_, ?_⟩
        · exact List.pairwise_append.mpr ⟨hns.1, by simp, fun x hx y hy => by rw [List.mem_singleton.mp hy]; exact hns.2 x hx⟩
        · intro x hx
          rcases List.mem_append.mp hx with z | z
          · have := hns.2 x z; omega
          · rw [List.mem_singleton.mp z]; omega
      · rw [show decide ((r : Int) = 0) = false from decide_eq_false (by omega)]
        walk_at "y"
        exact hno Hf gf hbf ⟨ns, rfl, hns.1, fun x hx => by have := hns.2 x hx; omega⟩
    obtain ⟨ns, rfl, hns⟩ := hds
    rw [nums_of we] at he
    have re : RI H He m (.ref pe) := ⟨pe, ns, rfl, he, hns, fr Gc hbc ne⟩
    have Ge := Gc.trans ge
    walk_at "y"
    refine x_mkl fun pf Hf ef nf hf => ?_
    have hae := (xb.trans xc) _ _ ha
    have na' : pa ≠ b := fun z => by rw [z] at na; exact box_ne hb9 na
    have hae := ge.keep pa _ (by simp [na']) hae
    refine x_addl (ef _ _ hae) hf (by simp) fun pg Hg eg ng hg => ?_
    walk_at "y"
    have toG : ∀ {x : V} {H1 H2 : Hp}, RI H H1 m x → Go [b] H1 H2 → RI H H2 m x := fun r g => r.go g nS
    have all : ∀ (n : Nat), n < 8 → ∃ x, ([V.ref p4, V.ref p5, V.ref p6, V.ref p8, V.ref p9] ++ [V.ref pb, V.ref pc, V.ref pe])[n]? = some x ∧ RI H Hg m x := by
      have k9 : Go [b] H9 Hg := (ea.go.trans (xb.go.trans xc.go)).trans (ge.trans (ef.go.trans eg.go))
      intro n hn
      match n, hn with
      | 0, _ => exact ⟨_, rfl, toG r4 (x5.go.trans (g6.ex.go.trans (e7.go.trans (e8.go.trans (x9.go.trans k9)))))⟩
      | 1, _ => exact ⟨_, rfl, toG r5 (g6.ex.go.trans (e7.go.trans (e8.go.trans (x9.go.trans k9))))⟩
      | 2, _ => exact ⟨_, rfl, toG r6 (e7.go.trans (e8.go.trans (x9.go.trans k9)))⟩
      | 3, _ => exact ⟨_, rfl, toG r8 (x9.go.trans k9)⟩
      | 4, _ => exact ⟨_, rfl, toG r9 k9⟩
      | 5, _ => exact ⟨_, rfl, toG rb (xc.go.trans (ge.trans (ef.go.trans eg.go)))⟩
      | 6, _ => exact ⟨_, rfl, toG rc (ge.trans (ef.go.trans eg.go))⟩
      | 7, _ => exact ⟨_, rfl, toG re (ef.go.trans eg.go)⟩
    obtain ⟨x, hx, rx⟩ := all kd hk
    refine x_ixl hg rfl hx ?_
    exact q x Hg (Ge.trans (ef.go.trans eg.go)) (hbe.go (ef.go.trans eg.go) (S := []) (by simp)) rx
end
end Y
/-! part C8 -/
/-! Whether disk and book stand as told; odd pages. -/
namespace Y
open PySem L2
local macro_rules | `(tactic| walk_at "y1") => `(tactic| (first
  | (with_reducible refine x_seq ?_) | (with_reducible refine x_asg ?_) | (with_reducible refine x_name ?_) | (with_reducible refine x_drop ?_) | (with_reducible refine x_ret ?_) | (with_reducible refine x_retN ?_)
  | (with_reducible refine x_next ?_) | (with_reducible refine x_brk ?_) | (with_reducible refine x_ifS ?_)
  | (with_reducible refine x_c ?_) | (with_reducible refine x_op ?_) | (with_reducible refine x_un ?_) | (with_reducible refine x_cb ?_) | (with_reducible refine x_cons ?_) | (with_reducible refine x_nil ?_)
  | (with_reducible refine x_call ?_) | (with_reducible refine x_tup ?_) | (with_reducible refine x_lst ?_) | (with_reducible refine x_sl ?_) | (with_reducible refine x_nopart ?_) | (with_reducible refine x_part ?_)
  | (with_reducible refine x_andV ?_) | (with_reducible refine x_orV ?_) | (with_reducible refine x_notV ?_) | (with_reducible refine x_if ?_) | (with_reducible refine x_test ?_) | (with_reducible refine x_tb ?_)
  | (with_reducible refine x_and ?_) | (with_reducible refine x_or ?_) | (with_reducible refine x_not ?_) | (with_reducible refine x_chain ?_) | (with_reducible refine x_exbl ?_) | (with_reducible refine x_exint ?_)
  | (with_reducible refine x_fld ?_) | (with_reducible refine x_sfld ?_) | (with_reducible refine x_par ?_) | (with_reducible refine x_par3 ?_) | (with_reducible refine x_dget ?_) | (with_reducible refine x_dput ?_)
  | (with_reducible refine x_bm ?_) | (with_reducible refine x_bm0 ?_) | (with_reducible refine x_pair ?_) | (with_reducible refine x_tri ?_) | (with_reducible refine x_int ?_) | (with_reducible refine x_intb ?_) | (with_reducible refine x_abs ?_) | (with_reducible refine x_isN ?_) | (with_reducible refine x_notN ?_) | (with_reducible refine x_meth ?_) | (with_reducible refine x_make ?_)
  | (with_reducible refine x_ite1 ?_) | (with_reducible refine x_ite0 ?_)
  | (with_reducible refine x_addi ?_) | (with_reducible refine x_neg ?_) | (with_reducible refine x_i0 ?_) | (with_reducible refine x_eqi ?_) | (with_reducible refine x_eqs ?_) | (with_reducible refine x_eqb ?_) | (with_reducible refine x_nei ?_) | (with_reducible refine x_lti ?_)
  | (with_reducible refine x_forL ?_) | (with_reducible refine x_forT ?_) | (with_reducible refine x_forR ?_) | (with_reducible refine x_forR2 ?_) | (with_reducible refine x_lcL ?_) | (with_reducible refine x_lcT ?_) | (with_reducible refine x_lcR ?_)
  | (with_reducible refine x_yes ?_) | (with_reducible refine x_pcons ?_) | (with_reducible refine x_pnil ?_) | (with_reducible refine x_gcons ?_) | (with_reducible refine x_gnil ?_) | (with_reducible refine x_gattr ?_) | (with_reducible refine x_raise ?_) | (with_reducible refine x_gsub ?_) | (with_reducible refine x_fldaug ?_) | (with_reducible refine x_radd ?_) | (with_reducible refine x_ipi ?_) | ((with_reducible refine x_aug (x := ?vv) ?hh ?qq); (case hh => exact rfl))
  | ((with_reducible refine x_iteA ?hc ?q); (case hc => exact rfl)) | ((with_reducible refine x_iteB ?hc ?q); (case hc => exact rfl))
  | ((with_reducible refine x_var (v := ?vv) ?hh ?qq); (case hh => exact rfl))
  | ((with_reducible refine r_isInt (d := ?dd) ?hh ?qq); (case hh => assumption)) | ((with_reducible refine r_isBool (d := ?dd) ?hh ?qq); (case hh => assumption)) | ((with_reducible refine r_isTup (d := ?dd) ?hh ?qq); (case hh => assumption))
  | ((with_reducible refine r_isStr (d := ?dd) ?hh ?qq); (case hh => assumption)) | ((with_reducible refine r_isLst (d := ?dd) ?hh ?qq); (case hh => assumption))))
local macro_rules | `(tactic| walk_at "y") => `(tactic| (repeat (walk_at "y1")))
section
variable {P : Program} {w : World} {K : PySem.W.Frag} {mg : Str → Option Value} {base : Heap}
def spStands (K : PySem.W.Frag) (CB CD : Addr) : Sp := fun vs H Q _ => ∃ d a dd od ls lf lp b S F U M, vs = [.ref d, .ref a, .ref dd, .ref od] ∧ DskAt K CD d S F U H ∧ BookAt K CB a d b H ∧ LDisk K dd ls lf lp S F U H ∧ OwnAt K od b H ∧ DskOk S F U M ∧ PageOk b.page ∧ ∀ H', Ex H H' → Q (.bl true) H'
abbrev s_stands : Stmt := top 46
abbrev nms_stands : List Str := ["disk", "book", "slots", "own", "told"]
theorem sc_stands : FnScope nms_stands ["disk", "book", "slots", "own"] (defScope s_stands) := ⟨rfl, rfl, rfl, by decide +kernel, rfl, by decide +kernel, by decide +kernel⟩
theorem ok_stands {f CB CD : Addr} {fd : FuncData} (B : BookC K CB) (D : DiskC K CD) (F : Fun K "_law_stands" "_law_stands" s_stands f fd) (hm : mg "_law_stands" = some (.ref f)) (b : Binds K fd ["disk", "book", "slots", "own"] []) (T : Bt mg) (c_same : Cal P w K mg base 10 "_law_same" (spSame K 10)) : Cal P w K mg base 11 "_law_stands" (spStands K CB CD) := by
  refine cal_of F hm b sc_stands (fun vs H Q E h => ?_) (fun cdv A outer s H vs Q E hr h => ?_)
  · obtain ⟨d, a, dd, od, ls, lf, lp, b, S, F, U, M, rfl, _⟩ := h
    rfl
  · obtain ⟨d, a, dd, od, ls, lf, lp, b, S, F, U, M, rfl, hd, hb, hl, ho, ok, op, q⟩ := h
    have hu64 := pass_hu64 hr
    have hu1 : (A.deeper (PyProof.Rows.envOfC "_law_stands" (defScope s_stands) s.heap.objs.size f cdv)).units + 1 < cLine := by have := hr.un; omega
    refine ⟨_, (pss_cons (ps_if (PW.pt (pw_or (pt_not (pt_val (pe_c c_same hr (by decide) (by rfl) (pa_cons (pe_fld (pv 0) rfl) (pa_cons (pe_callTy cTuple (by rfl) T.tuple (by decide +kernel) (pa_cons (pe_dget hu1 (pv 2) pe_str (fun _ _ => rfl)) pa_nil)) pa_nil))))) (pw_or1 (pt_not (pt_val (pe_c c_same hr (by decide) (by rfl) (pa_cons (pe_fld (pv 0) rfl) (pa_cons (pe_callTy cTuple (by rfl) T.tuple (by decide +kernel) (pa_cons (pe_dget hu1 (pv 2) pe_str (fun _ _ => rfl)) pa_nil)) pa_nil))))))))
    (pss_one (ps_ret pe_bl))
    pss_nil)
    (pss_cons (ps_if (PW.pt (pw_or (pt_not (pt_val (pe_c c_same hr (by decide) (by rfl) (pa_cons (pe_fld (pv 1) rfl) (pa_cons (pe_dget hu1 (pv 3) pe_str (fun _ _ => rfl)) pa_nil))))) (pw_or1 (pt_not (pt_val (pe_c c_same hr (by decide) (by rfl) (pa_cons (pe_fld (pv 1) rfl) (pa_cons (pe_dget hu1 (pv 3) pe_str (fun _ _ => rfl)) pa_nil))))))))
    (pss_one (ps_ret pe_bl))
    pss_nil)
    (pss_cons (ps_set (i := 4) sc_stands.nd rfl (by first | exact Or.inl rfl | exact Or.inr rfl) (pe_tup (pa_cons (pe_fld (pv 1) rfl) (pa_cons (pe_fld (pv 1) rfl) (pa_cons (pe_fld (pv 1) rfl) pa_nil)))))
    (pss_one (ps_ret (pe_c c_same hr (by decide) (by rfl) (pa_cons (pv 4) (pa_cons (pe_tup (pa_cons (pe_dget hu1 (pv 3) pe_str (fun _ _ => rfl)) (pa_cons (pe_dget hu1 (pv 3) pe_str (fun _ _ => rfl)) (pa_cons (pe_dget hu1 (pv 3) pe_str (fun _ _ => rfl)) pa_nil)))) pa_nil)))))))), ?_⟩
    try dsimp only [cxOf]
    obtain ⟨dx, v1, v2, v3, ed, w1, w2, w3⟩ := hd
    obtain ⟨dx2, vp, ea, wp⟩ := hb
    obtain ⟨xs, e1, y1⟩ := hl.s
    obtain ⟨zs, e3, y3⟩ := hl.p
    obtain ⟨vo, eo, wo⟩ := ho
    have sS : Sm 10 (.tuple (S.map slD)) := (sm_slots ok.s (by rw [ok.ls]; have := ok.m2; omega)).mono (by decide)
    have sU : Sm 10 (.tuple ((U.map entP).map putD)) := (sm_puts (fun p hp => (ok.u p hp).1) (by have := ok.lu; omega)).mono (by decide)
    have sP : Sm 10 (pageD b.page) := (sm_page op).mono (by decide)
    walk_at "y"
    refine x_kfld ed D.ins.cl D.a_slots rfl ?_
    walk_at "y"
    refine x_kdgetK hl.d rfl ?_
    walk_at "y"
    refine x_tupl e1 fun p1 H1 x1 n1 h1 => ?_
    walk_at "y"
    refine ⟨v1, .ref p1, _, rfl, w1.ex x1, .tup h1 (y1.ex x1), sS, fun H2 x2 => ?_⟩
    have E2 := x1.trans x2
    walk_at "y"
    refine x_kfld (E2 _ _ ed) D.ins.cl D.a_puts rfl ?_
    walk_at "y"
    refine x_kdgetK (E2 _ _ hl.d) rfl ?_
    walk_at "y"
    refine x_tupl (E2 _ _ e3) fun p3 H3 x3 n3 h3 => ?_
    have E3 := E2.trans x3
    walk_at "y"
    refine ⟨v3, .ref p3, _, rfl, w3.ex E3, .tup h3 (y3.ex E3), sU, fun H4 x4 => ?_⟩
    have E4 := E3.trans x4
    walk_at "y"
    refine x_kfld (E4 _ _ ea) B.ins.cl B.a_page rfl ?_
    walk_at "y"
    refine x_kdgetK (E4 _ _ eo) rfl ?_
    walk_at "y"
    refine ⟨vp, vo, _, rfl, wp.ex E4, wo.ex E4, sP, fun H5 x5 => ?_⟩
    have E5 := E4.trans x5
    walk_at "y"
    refine x_kfld (E5 _ _ ea) B.ins.cl B.a_life rfl ?_
    walk_at "y"
    refine x_kdgetK (E5 _ _ eo) rfl ?_
    walk_at "y"
    refine ⟨_, _, _, rfl, .int _, .int _, (sm_int _).mono (by decide), fun H6 x6 => ?_⟩
    have E6 := E5.trans x6
    walk_at "y"
    refine x_kfld (E6 _ _ ea) B.ins.cl B.a_gen rfl ?_
    walk_at "y"
    refine x_kfld (E6 _ _ ea) B.ins.cl B.a_half rfl ?_
    walk_at "y"
    refine x_kfld (E6 _ _ ea) B.ins.cl B.a_last rfl ?_
    walk_at "y"
    refine x_mkt (K := K) (.cons (.int _) (.cons (.int _) (.cons (.int _) .nil))) fun u7 H7 x7 w7 => ?_
    have E7 := E6.trans x7
    walk_at "y"
    refine x_kdgetK (E7 _ _ eo) rfl ?_
    walk_at "y"
    refine x_kdgetK (E7 _ _ eo) rfl ?_
    walk_at "y"
    refine x_kdgetK (E7 _ _ eo) rfl ?_
    walk_at "y"
    refine x_mkt (K := K) (.cons (.int _) (.cons (.int _) (.cons (.int _) .nil))) fun u8 H8 x8 w8 => ?_
    walk_at "y"
    have s3 : Sm 10 (.tuple [.int (b.gen : Int), .int (b.half : Int), .int (b.last : Int)]) := (Sm.tup (n := 1) (by simp) (by decide) fun d hd => by
      simp only [List.mem_cons, List.not_mem_nil, or_false] at hd
      rcases hd with rfl | rfl | rfl <;> exact sm_int _).mono (by decide)
    exact ⟨u7, u8, _, rfl, w7.ex x8, w8, s3, fun H9 x9 => q H9 (E7.trans (x8.trans x9))⟩
/-! ### odd pages -/
def tri : List PyData → Bool
  | [.int _, .int _, .int _] => true
  | _ => false
def noTri : PyData → Bool
  | .list xs => !tri xs && noTriL xs
  | .tuple xs => noTriL xs
  | _ => true
where
  noTriL : List PyData → Bool
  | [] => true
  | d :: ds => noTri d && noTriL ds
/-- what calls may change without a datum's knowing -/
def Aside (H : Hp) (s : Addr) : Prop := BoxAt s H ∨ ∃ ps, H s = some (.tbl ps)
mutual
theorem Wt.aside {S : List Addr} {H H' : Hp} (g : Go S H H') (hS : ∀ s ∈ S, Aside H s) : ∀ {v : V} {d : PyData}, noTri d = true → Wt K H v d → Wt K H' v d
  | _, _, _, .non => .non
  | _, _, _, .bl b => .bl b
  | _, _, _, .int i => .int i
  | _, _, _, .str x => .str x
  | _, .tuple ds, t, .tup h r => .tup (g.tup _ _ h) (WtL.aside g hS t r)
  | _, .list ds, t, @Wt.lst _ _ a xs _ h r => by
    have t : (!tri ds && noTri.noTriL ds) = true := t
    rw [Bool.and_eq_true] at t
    refine .lst (g.keep _ _ (fun z => ?_) h) (WtL.aside g hS t.2 r)
    rcases hS a z with ⟨i, j, k, e⟩ | ⟨ps, e⟩
    · rw [h] at e
      cases e
      cases r with
      | cons r1 r => cases r with
        | cons r2 r => cases r with
          | cons r3 r => cases r; cases r1; cases r2; cases r3; simp [tri] at t
    · rw [h] at e; cases e
  | _, .dict _, t, @Wt.obj _ _ a C dx fs h c => .obj (g.keep _ _ (fun z => by
    rcases hS a z with ⟨i, j, k, e⟩ | ⟨ps, e⟩ <;> rw [h] at e <;> cases e) h) c
theorem WtL.aside {S : List Addr} {H H' : Hp} (g : Go S H H') (hS : ∀ s ∈ S, Aside H s) : ∀ {vs : List V} {ds : List PyData}, noTri.noTriL ds = true → WtL K H vs ds → WtL K H' vs ds
  | _, _, _, .nil => .nil
  | _, d :: ds, t, .cons h r => by
    have t : (noTri d && noTri.noTriL ds) = true := t
    rw [Bool.and_eq_true] at t
    exact .cons (Wt.aside g hS t.1 h) (WtL.aside g hS t.2 r)
end
mutual
theorem noTri_of : ∀ {d : PyData}, tupOnly d = true → noTri d = true
  | .tuple ds, h => noTriL_of (ds := ds) h
  | .none, _ => rfl
  | .bool _, _ => rfl
  | .int _, _ => rfl
  | .str _, _ => rfl
  | .list _, h => by cases h
  | .dict _, h => by cases h
theorem noTriL_of : ∀ {ds : List PyData}, tupOnlyL ds = true → noTri.noTriL ds = true
  | [], _ => rfl
  | d :: ds, h => by
    have h : (tupOnly d && tupOnlyL ds) = true := h
    rw [Bool.and_eq_true] at h
    show (noTri d && noTri.noTriL ds) = true
    rw [noTri_of h.1, noTriL_of h.2]
    rfl
end
/-! ### expressions that make data -/
section
variable {σ : L2.St} {H : Hp}
def EvD (K : PySem.W.Frag) (σ : L2.St) (H0 : Hp) (te : TE) (d : PyData) : Prop := ∀ H1, Ex H0 H1 → ∀ Q : VK, (∀ v H2, Ex H1 H2 → Wt K H2 v d → Q v H2) → te σ H1 Q
def EvA (K : PySem.W.Frag) (σ : L2.St) (H0 : Hp) (ta : TA) (ds : List PyData) : Prop := ∀ H1, Ex H0 H1 → ∀ Q : List V → Hp → Prop, (∀ vs H2, Ex H1 H2 → WtL K H2 vs ds → Q vs H2) → ta σ H1 Q
theorem ev_var {i : Nat} {v : V} {d : PyData} (h : σ[i]? = some (some v)) (w : Wt K H v d) : EvD K σ H (tVar i) d := fun H1 e Q q => x_var h (q v H1 (Ex.refl _) (w.ex e))
theorem ev_none : EvD K σ H (tC .non) .none := fun H1 e Q q => q _ H1 (Ex.refl _) .non
theorem ev_int {i : Int} : EvD K σ H (tC (.int i)) (.int i) := fun H1 e Q q => q _ H1 (Ex.refl _) (.int i)
theorem ev_bl {i : Bool} : EvD K σ H (tC (.bl i)) (.bool i) := fun H1 e Q q => q _ H1 (Ex.refl _) (.bl i)
theorem ev_str {i : Str} : EvD K σ H (tC (.str i)) (.str i) := fun H1 e Q q => q _ H1 (Ex.refl _) (.str i)
theorem ev_neg {te : TE} {i : Int} (h : EvD K σ H te (.int i)) : EvD K σ H (tUn (rU fun i => .int (-i)) te) (.int (-i)) := fun H1 e Q q => x_un (h H1 e _ fun v H2 e2 w => by
  cases w
  exact x_neg (q _ H2 e2 (.int _)))
theorem ev_nil : EvA K σ H tNil [] := fun H1 e Q q => q [] H1 (Ex.refl _) .nil
theorem ev_cons {te : TE} {ta : TA} {d : PyData} {ds : List PyData} (h : EvD K σ H te d) (h2 : EvA K σ H ta ds) : EvA K σ H (tCons te ta) (d :: ds) := fun H1 e Q q => x_cons (h H1 e _ fun v H2 e2 w => h2 H2 (e.trans e2) _ fun vs H3 e3 w3 => q _ H3 (e2.trans e3) (.cons (w.ex e3) w3))
theorem ev_tup {ta : TA} {ds : List PyData} (h : EvA K σ H ta ds) (hl : ds.length ≤ 100000 := by first | decide | simp) : EvD K σ H (tTup ta) (.tuple ds) := fun H1 e Q q => x_tup (h H1 e _ fun vs H2 e2 w => x_mkt w (fun v H3 e3 w3 => q v H3 (e2.trans e3) w3) hl)
theorem ev_lst {ta : TA} {ds : List PyData} (h : EvA K σ H ta ds) (hl : ds.length ≤ 100000 := by first | decide | simp) : EvD K σ H (tLst ta) (.list ds) := fun H1 e Q q => x_lst (h H1 e _ fun vs H2 e2 w => x_mkl (fun p H3 e3 n3 h3 => q _ H3 (e2.trans e3) (.lst h3 (w.ex e3))) (by rw [w.len]; exact hl))
theorem ev_ix {te : TE} {ds : List PyData} {d : PyData} (n : Nat) {i : Int} (hi : i = (n : Int)) (h : EvD K σ H te (.tuple ds)) (hd : ds[n]? = some d) : EvD K σ H (tOp (rIxU K) te (tC (.int i))) d := fun H1 e Q q => x_op (h H1 e _ fun v H2 e2 w => x_c (x_ixd w hi hd fun u wu => q u H2 e2 wu))
theorem ev_to {te : TE} {ds : List PyData} (n : Nat) {i : Int} (hi : i = (n : Int)) (h : EvD K σ H te (.tuple ds)) : EvD K σ H (tSl (rSlU K) te tNoPart (tPart (tC (.int i)))) (.tuple (ds.take n)) := fun H1 e Q q => x_sl (h H1 e _ fun v H2 e2 w => x_nopart (x_part (x_c ⟨i, rfl, x_slt w fun u H3 e3 w3 => q u H3 (e2.trans e3) (by rw [hi, cut_to] at w3; exact w3)⟩)))
theorem ev_addt {ta tb : TE} {ds es : List PyData} (h : EvD K σ H ta (.tuple ds)) (h2 : EvD K σ H tb (.tuple es)) (hl : ds.length + es.length ≤ 100000) : EvD K σ H (tOp (rAddU K) ta tb) (.tuple (ds ++ es)) := fun H1 e Q q => x_op (h H1 e _ fun v H2 e2 w => h2 H2 (e.trans e2) _ fun u H3 e3 w3 => x_addt (w.ex e3) w3 hl fun z H4 e4 w4 => q z H4 (e2.trans (e3.trans e4)) w4)
theorem ev_addl {ta tb : TE} {ds es : List PyData} (h : EvD K σ H ta (.list ds)) (h2 : EvD K σ H tb (.list es)) (hl : ds.length + es.length ≤ 100000) : EvD K σ H (tOp (rAddU K) ta tb) (.list (ds ++ es)) := fun H1 e Q q => x_op (h H1 e _ fun v H2 e2 w => h2 H2 (e.trans e2) _ fun u H3 e3 w3 => by
  have w := w.ex e3
  cases w with
  | lst ea wa =>
  cases w3 with
  | lst eb wb => exact x_addl ea eb (by rw [wa.len, wb.len]; exact hl) fun p H4 e4 n4 h4 => q _ H4 (e2.trans (e3.trans e4)) (.lst h4 ((wa.ex e4).append (wb.ex e4))))
theorem ev_list {te : TE} {ds : List PyData} (h : EvD K σ H te (.tuple ds)) : EvD K σ H (tCB (rList K) (tCons te tNil)) (.list ds) := fun H1 e Q q => x_cb (x_cons (h H1 e _ fun v H2 e2 w => x_nil (by
  cases w with
  | tup ea wa => exact x_lstt ea fun p H3 e3 n3 h3 => q _ H3 (e2.trans e3) (.lst h3 (wa.ex e3)))))
theorem ev_if0 {tt : TT} {ta tb : TE} {d : PyData} (c : Bool) (h : ∀ H1, Ex H H1 → ∀ Q : Bool → Hp → Prop, (∀ H2, Ex H1 H2 → Q c H2) → tt σ H1 Q) (h1 : c = true → EvD K σ H ta d) (h2 : c = false → EvD K σ H tb d) : EvD K σ H (tIf tt ta tb) d := fun H1 e Q q => x_if (h H1 e _ fun H2 e2 => by
  cases c with
  | true => exact x_ite1 (h1 rfl H2 (e.trans e2) _ fun v H3 e3 w => q v H3 (e2.trans e3) w)
  | false => exact x_ite0 (h2 rfl H2 (e.trans e2) _ fun v H3 e3 w => q v H3 (e2.trans e3) w))
theorem x_asgEv {te : TE} {i : Nat} {D : Ends} {d : PyData} (h : EvD K σ H te d) (q : ∀ v H', Ex H H' → Wt K H' v d → D.nx (σ.set i (some v)) H') : tAsg te (gName i) D σ H := x_asg (h H (Ex.refl _) _ fun v H2 e2 w => x_name (q v H2 e2 w))
theorem ev_seq {t u : TS} {D : Ends} (q : t { D with nx := u D } σ H) : tSeq t u D σ H := q
end
/-- an odd page -/
structure Odd (d : PyData) : Prop where
  no : isPage d = false
  sd : PageSide d
  tr : noTri d = true
theorem pairSide_mk {k x : PyData} (h : k.canLay0 = true) (n : nodes x ≤ 1000) : PairSide (.tuple [k, x]) := ⟨fun k' x' e => by
  simp only [PyData.tuple.injEq, List.cons.injEq, and_true] at e
  obtain ⟨rfl, rfl⟩ := e
  exact ⟨h, n⟩⟩
theorem pairSide_len {ds : List PyData} (h : ds.length ≠ 2) : PairSide (.tuple ds) := ⟨fun k' x' e => by
  cases e
  simp at h⟩
theorem pairSide_not {d : PyData} (h : isTup d = false) : PairSide d := ⟨fun k' x' e => by subst e; cases h⟩
theorem pageSide_mk {ds : List PyData} (h : ∀ e ∈ ds, PairSide e) : PageSide (.tuple ds) := fun es e x hx => by cases e; exact h x hx
theorem pageSide_not {d : PyData} (h : isTup d = false) : PageSide d := fun es e => by subst e; cases h
theorem odd_not {d : PyData} (h : isTup d = false) (t : noTri d = true) : Odd d := ⟨isPage_not h, pageSide_not h, t⟩
theorem odd_one {e : PyData} (h : isPageL none [e] = false) (s : PairSide e) (t : noTri e = true) : Odd (.tuple [e]) := ⟨h, pageSide_mk fun x hx => by rw [List.mem_singleton.mp hx]; exact s, by
  show (noTri e && true) = true
  rw [t]
  rfl⟩
theorem odd_two {e e' : PyData} (h : isPageL none [e, e'] = false) (s : PairSide e) (s' : PairSide e') (t : noTri e = true) (t' : noTri e' = true) : Odd (.tuple [e, e']) := ⟨h, pageSide_mk fun x hx => by
  simp only [List.mem_cons, List.not_mem_nil, or_false] at hx
  rcases hx with rfl | rfl
  · exact s
  · exact s', by
  show (noTri e && (noTri e' && true)) = true
  rw [t, t']
  rfl⟩
theorem one_key {k x : PyData} (h : isKey k = false) : isPageL none [.tuple [k, x]] = false := by
  rw [pageL_cons, h]
  rfl
theorem one_plain {k x : PyData} (h : isPlain x = false) : isPageL none [.tuple [k, x]] = false := by
  rw [pageL_cons, h, Bool.and_false]
  rfl
theorem key_more {s : Str} {r : List PyData} {x : PyData} (h : isNum x = false) : isKey (.tuple (.str s :: r ++ [x])) = false := by
  show (decide ((r ++ [x]).length ≤ 2) && (r ++ [x]).all isNum) = false
  rw [List.all_append]
  show (_ && (_ && (isNum x && true))) = false
  rw [h, Bool.false_and, Bool.and_false, Bool.and_false]
theorem lay_app {a b : List PyData} (h : ∀ x ∈ a, x.canLay0 = true) (h' : ∀ x ∈ b, x.canLay0 = true) : (PyData.tuple (a ++ b)).canLay0 = true := layAll fun x hx => (List.mem_append.mp hx).elim (h x) (h' x)
theorem tri_app {a b : List PyData} (h : noTri.noTriL a = true) (h' : noTri.noTriL b = true) : noTri.noTriL (a ++ b) = true := by
  induction a with
  | nil => exact h'
  | cons x a ih =>
    have h : (noTri x && noTri.noTriL a) = true := h
    rw [Bool.and_eq_true] at h
    show (noTri x && noTri.noTriL (a ++ b)) = true
    rw [h.1, ih h.2]
    rfl
theorem tri_pair {a b : PyData} (h : noTri a = true) (h' : noTri b = true) : noTri (.tuple [a, b]) = true := by
  show (noTri a && (noTri b && true)) = true
  rw [h, h']
  rfl
def oddA (p : Page) (kx : Str) (kr : List PyData) (d : PyData) : List PyData := [.none, .int 5, .str "map", .list (p.map pairD ++ [.tuple [.tuple (.str kx :: kr), d]]), .tuple [.tuple [.tuple (.str kx :: kr), d], .tuple [.tuple (.str kx :: kr), d]], .tuple [.tuple (.str kx :: kr), d], .tuple [.tuple [.tuple (.str kx :: kr)]], .tuple [.tuple [.tuple (.str kx :: kr), d, .int 0]], .tuple [.tuple [.str kx, d]]]
def oddB (p : Page) (kx : Str) (kr : List PyData) (d : PyData) : List PyData := [.tuple [.tuple [.tuple (.str kx :: kr ++ [.int (-1)]), d]], .tuple [.tuple [.tuple (.str kx :: kr ++ [.bool true]), d]], .tuple [.tuple [.tuple ((.str kx :: kr).take 1 ++ [.int 1, .int 2, .int 3]), d]], .tuple [.tuple [.list (.str kx :: kr), d]]]
def oddC (p : Page) (kx : Str) (kr : List PyData) (d : PyData) : List PyData := [.tuple [.tuple [.tuple [.int 0], d]], .tuple [.tuple [.tuple [], d]], .tuple [.tuple [.tuple (.str kx :: kr), .list [.int 1]]], .tuple [.tuple [.tuple (.str kx :: kr), .tuple [.int 1, .list [.int 2]]]], .tuple [.tuple [.tuple (.str kx :: kr), .dict []]], .tuple [.tuple [.tuple (.str kx :: kr ++ [.str "a"]), d]]]
def oddE (p : Page) (kx : Str) (kr : List PyData) (d : PyData) : List PyData := [.tuple [.tuple [.tuple [.str "b", .int 2], .int 0], .tuple [.tuple [.str "b", .int 1], .int 0]], .tuple [.tuple [.tuple [.str "b", .int 1], .int 0], .tuple [.tuple [.str "a", .int 1], .int 0]], .tuple [.list [.tuple (.str kx :: kr), d]], .tuple [.tuple [.tuple (.str kx :: kr), d], .none], .tuple [.tuple [.none, .int 0]]]
theorem childs {ds : List PyData} (h : PyData.canLayAll0 ds = true) : ∀ x ∈ ds, x.canLay0 = true := by
  induction ds with
  | nil => intro x hx; cases hx
  | cons a l ih =>
    intro x hx
    have h : (a.canLay0 && PyData.canLayAll0 l) = true := h
    rw [Bool.and_eq_true] at h
    rcases List.mem_cons.mp hx with rfl | hx
    · exact h.1
    · exact ih h.2 x hx
theorem pairSide_val {d : PyData} (h : valOk d = true) : PairSide d := ⟨fun k x e => by
  subst e
  have v := val_of h
  refine ⟨childs (ds := [k, x]) v.ly k (by simp), ?_⟩
  have := v.nd
  have e : nodes (.tuple [k, x]) = nodes k + (nodes x + 0) + 1 := rfl
  omega⟩
theorem odds_ok {p : Page} {kx : Str} {kr : List PyData} {d : PyData} (hk1 : isKey (.tuple (.str kx :: kr)) = true) (ltk : PySem.W.dataLt (.tuple (.str kx :: kr)) (.tuple (.str kx :: kr)) = false) (hall : ∀ x ∈ (.str kx :: kr : List PyData), x.canLay0 = true)
    (htr : noTri (.tuple (.str kx :: kr)) = true) (hd : valOk d = true) (hp : PageOk p) : ∀ x ∈ ((oddA p kx kr d ++ oddB p kx kr d) ++ oddC p kx kr d) ++ oddE p kx kr d, Odd x := by
  intro x hx
  have hdt : noTri d = true := noTri_of (val_of hd).to
  have hdn : nodes d ≤ 1000 := Nat.le_trans (val_of hd).nd (by decide)
  have hkl : (PyData.tuple (.str kx :: kr)).canLay0 = true := layAll hall
  have htl : noTri.noTriL (.str kx :: kr) = true := htr
  have sok : (PyData.str kx).canLay0 = true := hall _ (by simp)
  have tp : noTri (.tuple [.tuple (.str kx :: kr), d]) = true := tri_pair htr hdt
  have one : ∀ (a : PyData), noTri a = true → noTri (.tuple [a, d]) = true := fun a h => tri_pair h hdt
  have sP : PairSide (.tuple [.tuple (.str kx :: kr), d]) := pairSide_mk hkl hdn
  have hkr : kr.all isNum = true := by
    have : (decide (kr.length ≤ 2) && kr.all isNum) = true := hk1
    rw [Bool.and_eq_true] at this
    exact this.2
  simp only [oddA, oddB, oddC, oddE, List.mem_append, List.mem_cons, List.not_mem_nil, or_false] at hx
  rcases hx with (((rfl | rfl | rfl | rfl | rfl | rfl | rfl | rfl | rfl) | rfl | rfl | rfl | rfl) | rfl | rfl | rfl | rfl | rfl | rfl) | rfl | rfl | rfl | rfl | rfl
  · exact odd_not rfl rfl
  · exact odd_not rfl rfl
  · exact odd_not rfl rfl
  · refine odd_not rfl ?_
    show (!tri (p.map pairD ++ [.tuple [.tuple (.str kx :: kr), d]]) && noTri.noTriL (p.map pairD ++ [.tuple [.tuple (.str kx :: kr), d]])) = true
    rw [tri_app (noTriL_of (lay_page hp).to) (by show (noTri (.tuple [.tuple (.str kx :: kr), d]) && true) = true; rw [tp]; rfl), Bool.and_true]
    match p with
    | [] => rfl
    | kv :: [] => rfl
    | kv :: kv2 :: r => rfl
  · refine odd_two ?_ sP sP tp tp
    rw [pageL_cons, pageL_cons]
    show (_ && _ && _ && (_ && _ && PySem.W.dataLt _ _ && _)) = false
    rw [ltk, Bool.and_false, Bool.false_and, Bool.and_false]
  · have sd : PairSide (.tuple (.str kx :: kr)) := ⟨fun k' x' e => by
      simp only [PyData.tuple.injEq, List.cons.injEq] at e
      obtain ⟨rfl, rfl⟩ := e
      refine ⟨sok, ?_⟩
      simp only [List.all_cons, Bool.and_eq_true] at hkr
      obtain ⟨i, rfl⟩ := num_shape hkr.1
      exact (by decide : 1 ≤ 1000)⟩
    refine odd_two ?_ sd (pairSide_val hd) htr hdt
    match kr with
    | [] => rfl
    | [r1] => rfl
    | _ :: _ :: _ => rfl
  · exact odd_one rfl (pairSide_len (by simp)) (by show (noTri (.tuple (.str kx :: kr)) && true) = true; rw [htr]; rfl)
  · exact odd_one rfl (pairSide_len (by simp)) (by show (noTri (.tuple (.str kx :: kr)) && (noTri d && true)) = true; rw [htr, hdt]; rfl)
  · exact odd_one (one_key rfl) (pairSide_mk sok hdn) (one _ rfl)
  · exact odd_one (one_key (key_more rfl)) (pairSide_mk (lay_app hall (by simp [PyData.canLay0])) hdn) (one _ (tri_app htl rfl))
  · exact odd_one (one_key (key_more rfl)) (pairSide_mk (lay_app hall (by simp [PyData.canLay0])) hdn) (one _ (tri_app htl rfl))
  · exact odd_one (one_key rfl) (pairSide_mk (lay_app (fun x hx => hall x (List.mem_of_mem_take hx)) (by simp [PyData.canLay0])) hdn) (one _ rfl)
  · refine odd_one (one_key rfl) (pairSide_mk (layAll hall) hdn) (one _ ?_)
    show (!tri (.str kx :: kr) && noTri.noTriL (.str kx :: kr)) = true
    rw [htl]
    rfl
  · exact odd_one (one_key rfl) (pairSide_mk rfl hdn) (one _ rfl)
  · exact odd_one (one_key rfl) (pairSide_mk rfl hdn) (one _ rfl)
  · exact odd_one (one_plain rfl) (pairSide_mk hkl (by decide)) (tri_pair htr rfl)
  · exact odd_one (one_plain rfl) (pairSide_mk hkl (by decide)) (tri_pair htr rfl)
  · exact odd_one (one_plain rfl) (pairSide_mk hkl (by decide)) (tri_pair htr rfl)
  · exact odd_one (one_key (key_more rfl)) (pairSide_mk (lay_app hall (by intro x hx; rw [List.mem_singleton.mp hx]; decide +kernel)) hdn) (one _ (tri_app htl rfl))
  · exact odd_two (by decide +kernel) (pairSide_mk (by decide +kernel) (by decide)) (pairSide_mk (by decide +kernel) (by decide)) rfl rfl
  · exact odd_two (by decide +kernel) (pairSide_mk (by decide +kernel) (by decide)) (pairSide_mk (by decide +kernel) (by decide)) rfl rfl
  · refine odd_one (pageL_notTup rfl) (pairSide_not rfl) ?_
    show (!tri [.tuple (.str kx :: kr), d] && (noTri (.tuple (.str kx :: kr)) && (noTri d && true))) = true
    rw [htr, hdt]
    rfl
  · refine odd_two ?_ sP (pairSide_not rfl) tp rfl
    rw [pageL_cons, pageL_notTup (d := .none) rfl, Bool.and_false]
  · exact odd_one (one_key rfl) (pairSide_mk rfl (by decide)) rfl
def spNoPage (K : PySem.W.Frag) : Sp := fun vs H Q _ => ∃ (b : Addr), ∃ y z p, vs = [.ref b, y, z] ∧ BoxAt b H ∧ Wt K H y (pageD p) ∧ PageOk p ∧ Wt K H z (.dict []) ∧ ∀ x d H', Go [b] H H' → BoxAt b H' → Wt K H' x d → Odd d → Q x H'
abbrev s_no_page : Stmt := top 34
abbrev nms_no_page : List Str := ["box", "page", "thing", "pair", "key", "value", "odd"]
theorem sc_no_page : FnScope nms_no_page ["box", "page", "thing"] (defScope s_no_page) := ⟨rfl, rfl, rfl, by decide +kernel, rfl, by decide +kernel, by decide +kernel⟩
theorem ok_no_page {f : Addr} {fd : FuncData} (F : Fun K "_law_no_page" "_law_no_page" s_no_page f fd) (hm : mg "_law_no_page" = some (.ref f)) (b : Binds K fd ["box", "page", "thing"] []) (T : Bt mg) (c_pick : Cal P w K mg base 2 "_law_pick" spPick) : Cal P w K mg base 3 "_law_no_page" (spNoPage K) := by
  refine cal_of F hm b sc_no_page (fun vs H Q E h => ?_) (fun cdv A outer s H vs Q E hr h => ?_)
  · obtain ⟨b, y, z, p, rfl, _⟩ := h
    rfl
  · obtain ⟨b, y, z, p, rfl, hb, wy, hp, wz, q⟩ := h
    have hu64 := pass_hu64 hr
    refine ⟨_, (pss_cons (ps_set (i := 3) sc_no_page.nd rfl (by first | exact Or.inl rfl | exact Or.inr rfl) (pe_ifExp (pt_cmpR (oNeK K hu64) (pv 1) (pe_tup pa_nil) (nomark _)) (pe_ix (oIxK K) (pv 1) pe_int (fun _ _ => rfl)) (pe_tup (pa_cons (pe_tup (pa_cons pe_str pa_nil)) (pa_cons pe_int pa_nil)))))
    (pss_cons (ps_asg (pv 3) (pg_tup (n := 2) rfl (pgs_cons (pg_name (i := 4) sc_no_page.nd rfl (by first | exact Or.inl rfl | exact Or.inr rfl)) (pgs_cons (pg_name (i := 5) sc_no_page.nd rfl (by first | exact Or.inl rfl | exact Or.inr rfl)) pgs_nil))))
    (pss_cons (ps_set (i := 6) sc_no_page.nd rfl (by first | exact Or.inl rfl | exact Or.inr rfl) (pe_lst (pa_cons pe_non (pa_cons pe_int (pa_cons pe_str (pa_cons (pe_op (oAddK K) (pe_callTy cList (by rfl) T.list (by decide +kernel) (pa_cons (pv 1) pa_nil)) (pe_lst (pa_cons (pv 3) pa_nil))) (pa_cons (pe_tup (pa_cons (pv 3) (pa_cons (pv 3) pa_nil))) (pa_cons (pe_tup (pa_cons (pv 4) (pa_cons (pv 5) pa_nil))) (pa_cons (pe_tup (pa_cons (pe_tup (pa_cons (pv 4) pa_nil)) pa_nil)) (pa_cons (pe_tup (pa_cons (pe_tup (pa_cons (pv 4) (pa_cons (pv 5) (pa_cons pe_int pa_nil)))) pa_nil)) (pa_cons (pe_tup (pa_cons (pe_tup (pa_cons (pe_ix (oIxK K) (pv 4) pe_int (fun _ _ => rfl)) (pa_cons (pv 5) pa_nil))) pa_nil)) pa_nil)))))))))))
    (pss_cons (ps_set (i := 6) sc_no_page.nd rfl (by first | exact Or.inl rfl | exact Or.inr rfl) (pe_op (oAddK K) (pv 6) (pe_lst (pa_cons (pe_tup (pa_cons (pe_tup (pa_cons (pe_op (oAddK K) (pv 4) (pe_tup (pa_cons (pe_un un_neg pe_int) pa_nil))) (pa_cons (pv 5) pa_nil))) pa_nil)) (pa_cons (pe_tup (pa_cons (pe_tup (pa_cons (pe_op (oAddK K) (pv 4) (pe_tup (pa_cons pe_bl pa_nil))) (pa_cons (pv 5) pa_nil))) pa_nil)) (pa_cons (pe_tup (pa_cons (pe_tup (pa_cons (pe_op (oAddK K) (pe_slice (oSlK K) (pv 4) po_none (po_some pe_int)) (pe_tup (pa_cons pe_int (pa_cons pe_int (pa_cons pe_int pa_nil))))) (pa_cons (pv 5) pa_nil))) pa_nil)) (pa_cons (pe_tup (pa_cons (pe_tup (pa_cons (pe_callTy cList (by rfl) T.list (by decide +kernel) (pa_cons (pv 4) pa_nil)) (pa_cons (pv 5) pa_nil))) pa_nil)) pa_nil)))))))
    (pss_cons (ps_set (i := 6) sc_no_page.nd rfl (by first | exact Or.inl rfl | exact Or.inr rfl) (pe_op (oAddK K) (pv 6) (pe_lst (pa_cons (pe_tup (pa_cons (pe_tup (pa_cons (pe_tup (pa_cons pe_int pa_nil)) (pa_cons (pv 5) pa_nil))) pa_nil)) (pa_cons (pe_tup (pa_cons (pe_tup (pa_cons (pe_tup pa_nil) (pa_cons (pv 5) pa_nil))) pa_nil)) (pa_cons (pe_tup (pa_cons (pe_tup (pa_cons (pv 4) (pa_cons (pe_lst (pa_cons pe_int pa_nil)) pa_nil))) pa_nil)) (pa_cons (pe_tup (pa_cons (pe_tup (pa_cons (pv 4) (pa_cons (pe_tup (pa_cons pe_int (pa_cons (pe_lst (pa_cons pe_int pa_nil)) pa_nil))) pa_nil))) pa_nil)) (pa_cons (pe_tup (pa_cons (pe_tup (pa_cons (pv 4) (pa_cons (pv 2) pa_nil))) pa_nil)) (pa_cons (pe_tup (pa_cons (pe_tup (pa_cons (pe_op (oAddK K) (pv 4) (pe_tup (pa_cons pe_str pa_nil))) (pa_cons (pv 5) pa_nil))) pa_nil)) pa_nil)))))))))
    (pss_cons (ps_set (i := 6) sc_no_page.nd rfl (by first | exact Or.inl rfl | exact Or.inr rfl) (pe_op (oAddK K) (pv 6) (pe_lst (pa_cons (pe_tup (pa_cons (pe_tup (pa_cons (pe_tup (pa_cons pe_str (pa_cons pe_int pa_nil))) (pa_cons pe_int pa_nil))) (pa_cons (pe_tup (pa_cons (pe_tup (pa_cons pe_str (pa_cons pe_int pa_nil))) (pa_cons pe_int pa_nil))) pa_nil))) (pa_cons (pe_tup (pa_cons (pe_tup (pa_cons (pe_tup (pa_cons pe_str (pa_cons pe_int pa_nil))) (pa_cons pe_int pa_nil))) (pa_cons (pe_tup (pa_cons (pe_tup (pa_cons pe_str (pa_cons pe_int pa_nil))) (pa_cons pe_int pa_nil))) pa_nil))) (pa_cons (pe_tup (pa_cons (pe_lst (pa_cons (pv 4) (pa_cons (pv 5) pa_nil))) pa_nil)) (pa_cons (pe_tup (pa_cons (pv 3) (pa_cons pe_non pa_nil))) (pa_cons (pe_tup (pa_cons (pe_tup (pa_cons pe_non (pa_cons pe_int pa_nil))) pa_nil)) pa_nil))))))))
    (pss_one (ps_ret (pe_c c_pick hr (by decide) (by rfl) (pa_cons (pv 0) (pa_cons (pv 6) pa_nil))))))))))), ?_⟩
    try dsimp only [cxOf]
    -- the pair
    obtain ⟨k, d, hk, hd, hpair⟩ : ∃ (k : KeyT) (d : PyData), k ∈ uni ∧ valOk d = true ∧ ((p = [] ∧ k = [.inr "map"] ∧ d = .int 0) ∨ p.head? = some (k, d)) := by
      cases p with
      | nil => exact ⟨[.inr "map"], .int 0, key_mem (s := "map") (js := []) (by decide) (by simp) (by simp), rfl, .inl ⟨rfl, rfl, rfl⟩⟩
      | cons kv r => exact ⟨kv.1, kv.2, hp.ks kv (by simp), hp.vs kv (by simp), .inr rfl⟩
    refine ev_seq (x_asgEv (K := K) (d := pairD (k, d)) ?_ fun v3 H1 e1 w3 => ?_)
    · refine ev_if0 (!decide (p = [])) (fun H1 e1 Q q => ?_) (fun c => ?_) fun c => ?_
      · walk_at "y"
        refine x_mkt (K := K) .nil fun u2 H2 e2 w2 => ?_
        refine x_ned ((wy.ex e1).ex e2) w2 (lay_page hp).shaped rfl ?_
        rw [show PyData.eqv (pageD p) (.tuple []) = decide (p = []) from by cases p <;> rfl]
        walk_at "y"
        exact q H2 e2
      · refine ev_ix 0 rfl (ev_var rfl wy) ?_
        rcases hpair with ⟨rfl, _⟩ | h
        · simp at c
        · cases p with
          | nil => simp at h
          | cons kv r => cases h; rfl
      · have hp0 : p = [] := by simpa using c
        rcases hpair with ⟨_, rfl, rfl⟩ | h
        · exact ev_tup (ev_cons (ev_tup (ev_cons ev_str ev_nil)) (ev_cons ev_int ev_nil))
        · rw [hp0] at h; cases h
    have kin := key_is hk
    have klen := key_len hk
    obtain ⟨kx, kr, hkr, hkn⟩ := key_shape kin
    have kd : k.map kD = .str kx :: kr := by
      have : PyData.tuple (k.map kD) = .tuple (.str kx :: kr) := hkr
      exact PyData.tuple.inj this
    have krl : kr.length ≤ 2 := by
      have := congrArg List.length kd
      simp at this
      omega
    have kt : tkD k = .tuple (.str kx :: kr) := hkr
    have hkl : (PyData.tuple (.str kx :: kr)).canLay0 = true := kt ▸ key_lay hk
    have hall : ∀ x ∈ (.str kx :: kr : List PyData), x.canLay0 = true := by
      have : ∀ (l : List PyData), PyData.canLayAll0 l = true → ∀ x ∈ l, x.canLay0 = true := fun l => by
        induction l with
        | nil => intro _ x hx; cases hx
        | cons a l ih =>
          intro h x hx
          have h : (a.canLay0 && PyData.canLayAll0 l) = true := h
          rw [Bool.and_eq_true] at h
          rcases List.mem_cons.mp hx with rfl | hx
          · exact h.1
          · exact ih h.2 x hx
      exact this _ hkl
    have htr : noTri (.tuple (.str kx :: kr)) = true := kt ▸ noTri_of (tkD_to k)
    have htr' : noTri.noTriL (.str kx :: kr) = true := htr
    have hdt : noTri d = true := noTri_of (val_of hd).to
    have hdn : nodes d ≤ 1000 := Nat.le_trans (val_of hd).nd (by decide)
    unfold pairD at w3
    rw [kt] at w3
    -- key, value
    have w3' := w3
    cases w3' with
    | @tup a3 _ _ ea3 wa3 =>
    cases wa3 with
    | @cons u0 _ _ _ wk wa3 =>
    cases wa3 with
    | @cons u1 _ _ _ wd wa3 =>
    cases wa3
    have wy1 := wy.ex e1
    have wz1 := wz.ex e1
    with_reducible refine ev_seq ?_
    with_reducible refine x_asg ?_
    refine x_var rfl (x_gtup ea3 rfl (x_gcons (x_name (x_gcons (x_name (x_gnil ?_))))))
    have lpg := hp.len
    with_reducible refine ev_seq ?_
    with_reducible refine x_asgEv (K := K) (d := .list (oddA p kx kr d)) ?_ fun v6 H2 e2 w6 => ?_
    · refine ev_lst (hl := by simp [oddA]) (ev_cons ev_none (ev_cons ev_int (ev_cons ev_str (ev_cons (ev_addl (ev_list (ev_var rfl wy1)) (ev_lst (ev_cons (ev_var rfl w3) ev_nil)) (by simp; omega)) (ev_cons (ev_tup (ev_cons (ev_var rfl w3) (ev_cons (ev_var rfl w3) ev_nil))) (ev_cons (ev_tup (ev_cons (ev_var rfl wk) (ev_cons (ev_var rfl wd) ev_nil)))
        (ev_cons (ev_tup (ev_cons (ev_tup (ev_cons (ev_var rfl wk) ev_nil)) ev_nil)) (ev_cons (ev_tup (ev_cons (ev_tup (ev_cons (ev_var rfl wk) (ev_cons (ev_var rfl wd) (ev_cons ev_int ev_nil)))) ev_nil)) (ev_cons (ev_tup (ev_cons (ev_tup (ev_cons (ev_ix 0 rfl (ev_var rfl wk) rfl) (ev_cons (ev_var rfl wd) ev_nil))) ev_nil)) ev_nil)))))))))
    have wk2 := wk.ex e2
    have wd2 := wd.ex e2
    have w32 := w3.ex e2
    have wz2 := wz1.ex e2
    with_reducible refine ev_seq ?_
    with_reducible refine x_asgEv (K := K) (d := .list (oddA p kx kr d ++ oddB p kx kr d)) ?_ fun v7 H3 e3 w7 => ?_
    · refine ev_addl (ev_var rfl w6) (ev_lst ?_ (by simp [oddB])) (by simp [oddA, oddB])
      refine ev_cons (ev_tup (ev_cons (ev_tup (ev_cons (ev_addt (ev_var rfl wk2) (ev_tup (ev_cons (ev_neg ev_int) ev_nil)) (by simp; omega)) (ev_cons (ev_var rfl wd2) ev_nil))) ev_nil)) ?_
      refine ev_cons (ev_tup (ev_cons (ev_tup (ev_cons (ev_addt (ev_var rfl wk2) (ev_tup (ev_cons ev_bl ev_nil)) (by simp; omega)) (ev_cons (ev_var rfl wd2) ev_nil))) ev_nil)) ?_
      refine ev_cons (ev_tup (ev_cons (ev_tup (ev_cons (ev_addt (ev_to 1 rfl (ev_var rfl wk2)) (ev_tup (ev_cons ev_int (ev_cons ev_int (ev_cons ev_int ev_nil)))) (by simp)) (ev_cons (ev_var rfl wd2) ev_nil))) ev_nil)) ?_
      exact ev_cons (ev_tup (ev_cons (ev_tup (ev_cons (ev_list (ev_var rfl wk2)) (ev_cons (ev_var rfl wd2) ev_nil))) ev_nil)) ev_nil
    have wk3 := wk2.ex e3
    have wd3 := wd2.ex e3
    have w33 := w32.ex e3
    have wz3 := wz2.ex e3
    with_reducible refine ev_seq ?_
    with_reducible refine x_asgEv (K := K) (d := .list ((oddA p kx kr d ++ oddB p kx kr d) ++ oddC p kx kr d)) ?_ fun v8 H4 e4 w8 => ?_
    · refine ev_addl (ev_var rfl w7) (ev_lst ?_ (by simp [oddC])) (by simp [oddA, oddB, oddC])
      refine ev_cons (ev_tup (ev_cons (ev_tup (ev_cons (ev_tup (ev_cons ev_int ev_nil)) (ev_cons (ev_var rfl wd3) ev_nil))) ev_nil)) ?_
      refine ev_cons (ev_tup (ev_cons (ev_tup (ev_cons (ev_tup ev_nil) (ev_cons (ev_var rfl wd3) ev_nil))) ev_nil)) ?_
      refine ev_cons (ev_tup (ev_cons (ev_tup (ev_cons (ev_var rfl wk3) (ev_cons (ev_lst (ev_cons ev_int ev_nil)) ev_nil))) ev_nil)) ?_
      refine ev_cons (ev_tup (ev_cons (ev_tup (ev_cons (ev_var rfl wk3) (ev_cons (ev_tup (ev_cons ev_int (ev_cons (ev_lst (ev_cons ev_int ev_nil)) ev_nil))) ev_nil))) ev_nil)) ?_
      refine ev_cons (ev_tup (ev_cons (ev_tup (ev_cons (ev_var rfl wk3) (ev_cons (ev_var rfl wz3) ev_nil))) ev_nil)) ?_
      exact ev_cons (ev_tup (ev_cons (ev_tup (ev_cons (ev_addt (ev_var rfl wk3) (ev_tup (ev_cons ev_str ev_nil)) (by simp; omega)) (ev_cons (ev_var rfl wd3) ev_nil))) ev_nil)) ev_nil
    have wk4 := wk3.ex e4
    have wd4 := wd3.ex e4
    have w34 := w33.ex e4
    with_reducible refine ev_seq ?_
    with_reducible refine x_asgEv (K := K) (d := .list (((oddA p kx kr d ++ oddB p kx kr d) ++ oddC p kx kr d) ++ oddE p kx kr d)) ?_ fun v9 H5 e5 w9 => ?_
    · refine ev_addl (ev_var rfl w8) (ev_lst ?_ (by simp [oddE])) (by simp [oddA, oddB, oddC, oddE])
      refine ev_cons (ev_tup (ev_cons (ev_tup (ev_cons (ev_tup (ev_cons ev_str (ev_cons ev_int ev_nil))) (ev_cons ev_int ev_nil))) (ev_cons (ev_tup (ev_cons (ev_tup (ev_cons ev_str (ev_cons ev_int ev_nil))) (ev_cons ev_int ev_nil))) ev_nil))) ?_
      refine ev_cons (ev_tup (ev_cons (ev_tup (ev_cons (ev_tup (ev_cons ev_str (ev_cons ev_int ev_nil))) (ev_cons ev_int ev_nil))) (ev_cons (ev_tup (ev_cons (ev_tup (ev_cons ev_str (ev_cons ev_int ev_nil))) (ev_cons ev_int ev_nil))) ev_nil))) ?_
      refine ev_cons (ev_tup (ev_cons (ev_lst (ev_cons (ev_var rfl wk4) (ev_cons (ev_var rfl wd4) ev_nil))) ev_nil)) ?_
      refine ev_cons (ev_tup (ev_cons (ev_var rfl w34) (ev_cons ev_none ev_nil))) ?_
      exact ev_cons (ev_tup (ev_cons (ev_tup (ev_cons ev_none (ev_cons ev_int ev_nil))) ev_nil)) ev_nil
    have E5 := e1.trans (e2.trans (e3.trans (e4.trans e5)))
    have hb5 := hb.go E5.go (S := []) (by simp)
    have odds : ∀ x ∈ ((oddA p kx kr d ++ oddB p kx kr d) ++ oddC p kx kr d) ++ oddE p kx kr d, Odd x := odds_ok (kt ▸ kin) (kt ▸ keyLt_irrefl k) hall htr hd hp
    cases w9 with
    | @lst l9 xs9 _ ea9 wa9 =>
    have len9 : xs9.length = 24 := by rw [wa9.len]; rfl
    walk_at "y"
    have nbl : b ≠ l9 := fun z => by
      obtain ⟨i, j, k, e⟩ := hb5
      rw [z, ea9] at e
      cases e
      simp at len9
    refine ⟨b, l9, xs9, rfl, hb5, ea9, nbl, by omega, by omega, fun i x H6 hx g6 hb6 => ?_⟩
    obtain ⟨dx, hdx, wx⟩ := wa9.get hx
    have ho := odds dx (List.mem_of_getElem? hdx)
    exact q x dx H6 (E5.go.trans g6) hb6 (wx.aside g6 (fun s hs => by rw [List.mem_singleton.mp hs]; exact .inl hb5) ho.tr) ho
end
end Y
/-! part C9 -/
/-! What is heard of work that raises. -/
namespace Y
open PySem L2 LamX PySem.Spec PyProof.Rows
/-! ### heaps where tables may grow -/
mutual
theorem Wt.exN {K : PySem.W.Frag} {H H' : Hp} (e : ExtN H H') : ∀ {v : V} {d : PyData}, Wt K H v d → Wt K H' v d
  | _, _, .non => .non
  | _, _, .bl b => .bl b
  | _, _, .int i => .int i
  | _, _, .str x => .str x
  | _, _, .tup h r => .tup (e _ _ h (fun _ z => by cases z)) (WtL.exN e r)
  | _, _, .lst h r => .lst (e _ _ h (fun _ z => by cases z)) (WtL.exN e r)
  | _, _, .obj h c => .obj (e _ _ h (fun _ z => by cases z)) c
theorem WtL.exN {K : PySem.W.Frag} {H H' : Hp} (e : ExtN H H') : ∀ {vs : List V} {ds : List PyData}, WtL K H vs ds → WtL K H' vs ds
  | _, _, .nil => .nil
  | _, _, .cons h r => .cons (Wt.exN e h) (WtL.exN e r)
end
section
variable {K : PySem.W.Frag} {H H' : Hp}
theorem BoxAt.exN {b : Addr} (h : BoxAt b H) (e : ExtN H H') : BoxAt b H' := by
  obtain ⟨i, j, k, h⟩ := h
  exact ⟨i, j, k, e _ _ h (fun _ z => by cases z)⟩
theorem DskAt.exN {C a : Addr} {S F : List Slot} {U : List (Nat × Entry)} (h : DskAt K C a S F U H) (e : ExtN H H') : DskAt K C a S F U H' := by
  obtain ⟨dx, v1, v2, v3, h, w1, w2, w3⟩ := h
  exact ⟨dx, v1, v2, v3, e _ _ h (fun _ z => by cases z), w1.exN e, w2.exN e, w3.exN e⟩
theorem BookAt.exN {C a d : Addr} {b : Bk} (h : BookAt K C a d b H) (e : ExtN H H') : BookAt K C a d b H' := by
  obtain ⟨dx, v, h, w⟩ := h
  exact ⟨dx, v, e _ _ h (fun _ z => by cases z), w.exN e⟩
theorem OwnAt.exN {a : Addr} {b : Bk} (h : OwnAt K a b H) (e : ExtN H H') : OwnAt K a b H' := by
  obtain ⟨v, h, w⟩ := h
  exact ⟨v, e _ _ h (fun _ z => by cases z), w.exN e⟩
theorem LDisk.exN {dd ls lf lp : Addr} {S F : List Slot} {U : List (Nat × Entry)} (h : LDisk K dd ls lf lp S F U H) (e : ExtN H H') : LDisk K dd ls lf lp S F U H' := by
  obtain ⟨d, ⟨x1, s1, t1⟩, ⟨x2, s2, t2⟩, ⟨x3, s3, t3⟩, n1, n2, n3⟩ := h
  exact ⟨e _ _ d (fun _ z => by cases z), ⟨x1, e _ _ s1 (fun _ z => by cases z), t1.exN e⟩, ⟨x2, e _ _ s2 (fun _ z => by cases z), t2.exN e⟩, ⟨x3, e _ _ s3 (fun _ z => by cases z), t3.exN e⟩, n1, n2, n3⟩
/-- all but what stands at S and the tables -/
structure GoT (S : List Addr) (H H' : Hp) : Prop where
  keep : ∀ a o, a ∉ S → H a = some o → (∀ ps, o ≠ .tbl ps) → H' a = some o
  tup : ∀ a xs, H a = some (.tup xs) → H' a = some (.tup xs)
theorem Go.goT {S : List Addr} (g : Go S H H') : GoT S H H' := ⟨fun a o n h _ => g.keep a o n h, g.tup⟩
theorem goT_N {S : List Addr} (g : ExtN H H') : GoT S H H' := ⟨fun a o n h t => g a o h t, fun a xs h => g a _ h (fun _ z => by cases z)⟩
theorem GoT.trans {S : List Addr} {H1 : Hp} (a : GoT S H H1) (b : GoT S H1 H') : GoT S H H' := ⟨fun x o n h t => b.keep x o n (a.keep x o n h t) t, fun x xs h => b.tup x xs (a.tup x xs h)⟩
/-- told as a growth of tables behind a change of S -/
theorem GoT.split {S : List Addr} (g : GoT S H H') : ∃ H1, Go S H H1 ∧ ExtN H1 H' := by
  refine ⟨fun a => match H a with
    | some (.tbl ps) => some (.tbl ps)
    | _ => H' a, ⟨fun a o n h => ?_, fun a xs h => ?_⟩, fun a o h t => ?_⟩
  · show (match H a with
      | some (.tbl ps) => some (HO.tbl ps)
      | _ => H' a) = _
    split
    · rename_i q; rw [q] at h; exact h
    · rename_i q
      exact g.keep a o n h (fun ps z => q ps (by rw [h, z]))
  · show (match H a with
      | some (.tbl ps) => some (HO.tbl ps)
      | _ => H' a) = _
    rw [h]
    exact g.tup a xs h
  · have h : (match H a with
      | some (.tbl ps) => some (HO.tbl ps)
      | _ => H' a) = some o := h
    split at h
    · cases h; exact absurd rfl (t _)
    · exact h
/-- tables told of heaps that change elsewhere -/
def Plainish (H : Hp) (s : Addr) : Prop := (∃ xs, H s = some (.lst xs)) ∨ (∃ C dx fs, H s = some (.ins C dx fs)) ∨ ∃ kvs, H s = some (.dK kvs)
theorem Tabs.go {T : List (Addr × Str)} {S : List Addr} (t : Tabs T H) (g : Go S H H') (hS : ∀ s ∈ S, Plainish H s) : Tabs T H' := fun p hp => by
  obtain ⟨ps, h1, h2, h3⟩ := t p hp
  have nP : p.1 ∉ S := fun z => by
    rcases hS _ z with ⟨_, e⟩ | ⟨_, _, _, e⟩ | ⟨_, e⟩ <;> rw [h1] at e <;> cases e
  refine ⟨ps, g.keep _ _ nP h1, h2, fun pos cv hc => ?_⟩
  obtain ⟨c, e1, e2⟩ := h3 pos cv hc
  refine ⟨c, e1, g.keep _ _ (fun z => ?_) e2⟩
  rcases hS _ z with ⟨_, e⟩ | ⟨_, _, _, e⟩ | ⟨_, e⟩ <;> rw [e2] at e <;> unfold CodeO at e <;> cases e
end
/-! ### a def whose code object is known -/
section
variable {P : Program} {w : World} {K : PySem.W.Frag} {mg : Str → Option Value} {base : Heap}
theorem cal_ofC {x : Str} {st : Stmt} {f : Addr} {fd : FuncData} {N ps : List Str} {k : Nat} {sp : Sp} (F : Fun K x x st f fd) (hm : mg x = some (.ref f)) (b : Binds K fd ps []) (S : FnScope N ps (defScope st)) (len : ∀ vs H Q E, sp vs H Q E → vs.length = ps.length)
    (hbody : ∀ (cdv : Value), fd.code = cdv → ∀ (A : Around) (outer : List Env) (s : Shared) (H : Hp) (vs : List V) (Q : VK) (E : XK), Room k (A.deeper (envOfC x (defScope st) s.heap.objs.size f cdv)) → sp vs H Q E →
      ∃ t, PSs (cxOf (L2.CX P w) P w K mg base N x (defScope st) f cdv A outer s H E) (defBody st) t ∧ t { nx := fun _ H' => Q .non H', rt := Q } (start N vs) H) : Cal P w K mg base (k + 1) x sp := by
  have kp := F.kp
  obtain ⟨oc, od, kV, doc, pm, an, cdv, ct, osl, rfl, lk, hcd⟩ := F.ex
  exact ⟨f, _, ps, fn_of lk hcd S len fun A outer s H vs Q E hr hsp => hbody cdv rfl A outer s H vs Q E hr hsp, hm, kp, b⟩
end
theorem pv_len (n : Nat) {X : Cx} {e : Expr} {i : Nat} (h : PE X e (tVar i)) (hn : X.N.length = n := by rfl) : PE X e (fun σ H Q => ∃ v, (σ.length = n → σ[i]? = some (some v)) ∧ Q v H) := ⟨fun pins s σ H Q I ⟨v, hv, q⟩ => h.run pins s σ H Q I ⟨v, hv (I.len.trans hn), q⟩⟩
/-! ### heard -/
abbrev s_heard : Stmt := top 44
abbrev nms_heard : List Str := ["work", "error"]
theorem sc_heard : FnScope nms_heard ["work"] (defScope s_heard) := ⟨rfl, rfl, rfl, by decide +kernel, rfl, by decide +kernel, by decide +kernel⟩
/-- what heard makes of work that raises C with the number n: (word, n) -/
def THeard (K : PySem.W.Frag) (C : Addr) (word : Str) (n : Int) : (XK → Hp → VK → Prop) → Hp → VK → Prop := fun tl H Q =>
  tl (fun cls d H' => cls = .ref C ∧ ∃ e, d = some e ∧ H' e = some (.xd [(("at" : Str), .int n)]) ∧ ∀ u H'', Ex H' H'' → Wt K H'' u (.tuple [.str word, .int n]) → Q u H'') H (fun v H1 => mkT [.str "told", v] H1 Q)
structure ExK (K : PySem.W.Frag) (mg : Str → Option Value) (cD cP : Addr) where
  pp : PySem.W.exmOne K (.ref cP) (.ref cP) = some true
  dp : PySem.W.exmOne K (.ref cD) (.ref cP) = some false
  dd : PySem.W.exmOne K (.ref cD) (.ref cD) = some true
  me : ∃ c, mg "MapsError" = some (.ref c)
theorem heard_gives {X : Cx} {q : Str} {g : Addr} {cdg : Value} (ER : Ers X.prog X.K X.mg) (EK : ExK X.K X.mg ER.cD ER.cP) (C : Addr) (word : Str) (n : Int) (hC : (C = ER.cP ∧ word = "page") ∨ (C = ER.cD ∧ word = "disk")) :
    GivesTo X nms_heard "_law_heard" (defScope s_heard) g cdg (defBody s_heard) "work" q (THeard X.K C word n) := by
  intro f c' s H Q tl act hc h
  obtain ⟨cM, hM⟩ := EK.me
  refine ⟨_, pss_one (ps_try_list (X := (cxOf C8.CX0 X.prog X.w X.K X.mg X.base nms_heard "_law_heard" (defScope s_heard) g cdg X.A X.stack s H C8.E0).nox)
    (tb := fun W D σ H => ∃ Ech : XK, (∀ cls d σ' H', Ech cls d H' → W cls d σ' H') ∧ tRet (tTup (tCons (tC (.str "told")) (tCons (fun σZ HZ Q => σZ[0]? = some (some (.ref f)) ∧ HZ c' = some (CodeO c' q) ∧ tl Ech HZ Q) tNil))) D σ H)
    rfl rfl sc_heard.nd LamX.takes0 (fun W pn xe tk _ => ?_)
    (CsOk.named (i := 1) (c := .ref ER.cP) rfl rfl ⟨by rfl, by decide, .inl ER.InvalidPage.gC⟩ (fun a oe cls d pn hz hf => pss_one (ps_ret (pe_tup (pa_cons pe_str (pa_cons (pe_byErr (X := (cxOf C8.CX0 X.prog X.w X.K X.mg X.base nms_heard "_law_heard" (defScope s_heard) g cdg X.A X.stack s H C8.E0).nox) ER.InvalidPage hz hf (pv_len 2 (pv (X := Cx.suite (cxOf C8.CX0 X.prog X.w X.K X.mg X.base nms_heard "_law_heard" (defScope s_heard) g cdg X.A X.stack s H C8.E0).nox a ((a, oe) :: pn)) 1))) pa_nil)))))
      (CsOk.named (i := 1) (c := .ref ER.cD) rfl rfl ⟨by rfl, by decide, .inl ER.InvalidDisk.gC⟩ (fun a oe cls d pn hz hf => pss_one (ps_ret (pe_tup (pa_cons pe_str (pa_cons (pe_byErr (X := (cxOf C8.CX0 X.prog X.w X.K X.mg X.base nms_heard "_law_heard" (defScope s_heard) g cdg X.A X.stack s H C8.E0).nox) ER.InvalidDisk hz hf (pv_len 2 (pv (X := Cx.suite (cxOf C8.CX0 X.prog X.w X.K X.mg X.base nms_heard "_law_heard" (defScope s_heard) g cdg X.A X.stack s H C8.E0).nox a ((a, oe) :: pn)) 1))) pa_nil)))))
        (CsOk.plain (c := .ref cM) ⟨by rfl, by decide, .inl hM⟩ (fun a oe cls d pn hz hf => pss_one (ps_ret (pe_tup (pa_cons pe_str (pa_cons pe_int pa_nil))))) .nil)))), ?_⟩
  · refine ⟨fun pins s' σ H' D I h' => ?_⟩
    obtain ⟨Ech, hW, h1⟩ := h'
    exact (pss_one (ps_ret (pe_tup (pa_cons pe_str (pa_cons (act W pn xe Ech _ _ tk hW) pa_nil))))).run pins s' σ H' D I h1
  · refine ⟨fun cls d H' => cls = .ref C ∧ ∃ e, d = some e ∧ H' e = some (.xd [(("at" : Str), .int n)]) ∧ ∀ u H'', Ex H' H'' → Wt X.K H'' u (.tuple [.str word, .int n]) → Q u H'', fun cls d σ' H' hE => ?_, ?_⟩
    · obtain ⟨rfl, e, rfl, he, hq⟩ := hE
      have lk : ∀ a : Addr, (σ'.set 1 (some (V.ref a))).length = 2 → (σ'.set 1 (some (V.ref a)))[1]? = some (some (V.ref a)) := fun a hl => by
        rw [List.length_set] at hl
        exact List.getElem?_set_self (by omega)
      rcases hC with ⟨rfl, rfl⟩ | ⟨rfl, rfl⟩
      · refine ⟨true, EK.pp, fun _ a ha => ?_, fun z => by cases z⟩
        refine x_ret (x_tup (x_cons (x_c (x_cons ?_))))
        refine ⟨.ref a, lk a, rfl, rfl, e, .int n, rfl, he, x_nil (x_mkt (K := X.K) (.cons (.str _) (.cons (.int _) .nil)) fun u H2 e2 w2 => ?_)⟩
        exact hq u H2 e2 w2
      · refine ⟨false, EK.dp, (fun z => by cases z), fun _ => ⟨true, EK.dd, fun _ a ha => ?_, fun z => by cases z⟩⟩
        refine x_ret (x_tup (x_cons (x_c (x_cons ?_))))
        refine ⟨.ref a, lk a, rfl, rfl, e, .int n, rfl, he, x_nil (x_mkt (K := X.K) (.cons (.str _) (.cons (.int _) .nil)) fun u H2 e2 w2 => ?_)⟩
        exact hq u H2 e2 w2
    · refine x_ret (x_tup (x_cons (x_c (x_cons ?_))))
      exact ⟨rfl, hc, h⟩
end Y
/-! part C10 -/
/-! What is refused. -/
namespace Y
open PySem LamX L2
section
variable {σ : L2.St} {H : Hp} {Q : VK}
theorem x_lam {T : List (Addr × Str)} {TT : (XK → Hp → VK → Prop) → Hp → VK → Prop} {t : XK → TE} (h : Tabs T H) (q : ∀ H1, ExtN H H1 → Tabs T H1 → TT (fun E H' Q' => t E σ H' Q') H1 Q) : tLam T TT t σ H Q := ⟨h, q⟩
end
section
variable {X : Cx}
/-- pe_lamcall, the table being this def's alone -/
theorem lam1 {TT : (XK → Hp → VK → Prop) → Hp → VK → Prop} {x a : Str} {g c P : Addr} {k : Nat} {pg : Arguments} {bg : List Stmt} {sg : Scope} {dV kV doc pm cdv ct oc : Value} {an od : Option Addr} {osl : Array (Option Value)} {Ng : List Str}
    {params : Arguments} {body : Expr} {scope : Scope} {t : XK → TE} {p lpos pos : Pos} (hg : Gl X x) (hm : X.mg x = some (.ref g)) (hk : PySem.W.keepIn X.K (.ref g) = true)
    (lk : X.K.lookup g = some ⟨oc, od, .func (PySem.W.fnOf x x pg bg sg dV kV doc pm an cdv ct), osl⟩) (hcg : PySem.W.codeIn X.K cdv x = true) (hb : L2.Binds X.K (PySem.W.fnOf x x pg bg sg dV kV doc pm an cdv ct) [a] []) (Sg : FnScope Ng [a] sg) (hNg : Ng[0]? = some a) (hva : Vis sg a)
    (hG : GivesTo X Ng x sg g cdv bg a (X.env.qual ++ "<lambda>") TT)
    (TB : TabB X.base X.mg c P) (hcode : X.env.code = .ref c) (hr : Room (k + 2) X.A) (L : LamS X.env.scope scope) (hdef : defaultsOf params X.env = ([], []))
    (hbind : ∀ (q : Str) (cl : List (Str × Addr)) (pm cv ctv : Value), bindArgs (PySem.W.kla_fn "<lambda>" q params body scope cl pm cv ctv) ⟨[], []⟩ = pure [])
    (hbody : ∀ (A : Around) (outer : List Env) (s : Shared) (H : Hp) (E : XK) (f c' : Addr), Room k (A.deeper (lamEnv X scope s.heap.objs.size f c')) → PE (lamCx X A outer s H E scope f c') body (t E))
    (hdb : (x == ("__debug__" : Str)) = false := by decide) (hd : (a == ("__debug__" : Str)) = false := by decide) (hcd : (a == ("__classdict__" : Str)) = false := by decide) :
    PE X (.Call (.Name x p) [.Lambda params body scope lpos] [] pos) (tLam [(P, X.env.qual ++ "<lambda>")] TT t) :=
  pe_lamcall hg hm hk lk hcg hb Sg hNg hva hG TB hcode List.mem_cons_self (fun p hp _ => by rw [List.mem_singleton.mp hp]) hr L hdef hbind hbody hdb hd hcd
end
local macro_rules | `(tactic| walk_at "y1") => `(tactic| (first
  | (with_reducible refine x_seq ?_) | (with_reducible refine x_asg ?_) | (with_reducible refine x_name ?_) | (with_reducible refine x_drop ?_) | (with_reducible refine x_ret ?_) | (with_reducible refine x_retN ?_)
  | (with_reducible refine x_next ?_) | (with_reducible refine x_brk ?_) | (with_reducible refine x_ifS ?_)
  | (with_reducible refine x_c ?_) | (with_reducible refine x_op ?_) | (with_reducible refine x_un ?_) | (with_reducible refine x_cb ?_) | (with_reducible refine x_cons ?_) | (with_reducible refine x_nil ?_)
  | (with_reducible refine x_call ?_) | (with_reducible refine x_tup ?_) | (with_reducible refine x_lst ?_) | (with_reducible refine x_sl ?_) | (with_reducible refine x_nopart ?_) | (with_reducible refine x_part ?_)
  | (with_reducible refine x_andV ?_) | (with_reducible refine x_orV ?_) | (with_reducible refine x_notV ?_) | (with_reducible refine x_if ?_) | (with_reducible refine x_test ?_) | (with_reducible refine x_tb ?_)
  | (with_reducible refine x_and ?_) | (with_reducible refine x_or ?_) | (with_reducible refine x_not ?_) | (with_reducible refine x_chain ?_) | (with_reducible refine x_exbl ?_) | (with_reducible refine x_exint ?_)
  | (with_reducible refine x_fld ?_) | (with_reducible refine x_sfld ?_) | (with_reducible refine x_par ?_) | (with_reducible refine x_par3 ?_) | (with_reducible refine x_dget ?_) | (with_reducible refine x_dput ?_)
  | (with_reducible refine x_bm ?_) | (with_reducible refine x_bm0 ?_) | (with_reducible refine x_pair ?_) | (with_reducible refine x_tri ?_) | (with_reducible refine x_int ?_) | (with_reducible refine x_intb ?_) | (with_reducible refine x_abs ?_) | (with_reducible refine x_isN ?_) | (with_reducible refine x_notN ?_) | (with_reducible refine x_meth ?_) | (with_reducible refine x_make ?_)
  | (with_reducible refine x_ite1 ?_) | (with_reducible refine x_ite0 ?_)
  | (with_reducible refine x_addi ?_) | (with_reducible refine x_neg ?_) | (with_reducible refine x_i0 ?_) | (with_reducible refine x_eqi ?_) | (with_reducible refine x_eqs ?_) | (with_reducible refine x_eqb ?_) | (with_reducible refine x_nei ?_) | (with_reducible refine x_lti ?_)
  | (with_reducible refine x_forL ?_) | (with_reducible refine x_forT ?_) | (with_reducible refine x_forR ?_) | (with_reducible refine x_forR2 ?_) | (with_reducible refine x_lcL ?_) | (with_reducible refine x_lcT ?_) | (with_reducible refine x_lcR ?_)
  | (with_reducible refine x_yes ?_) | (with_reducible refine x_pcons ?_) | (with_reducible refine x_pnil ?_) | (with_reducible refine x_gcons ?_) | (with_reducible refine x_gnil ?_) | (with_reducible refine x_gattr ?_) | (with_reducible refine x_raise ?_) | (with_reducible refine x_gsub ?_) | (with_reducible refine x_fldaug ?_) | (with_reducible refine x_radd ?_) | (with_reducible refine x_ipi ?_) | ((with_reducible refine x_aug (x := ?vv) ?hh ?qq); (case hh => exact rfl))
  | ((with_reducible refine x_iteA ?hc ?q); (case hc => exact rfl)) | ((with_reducible refine x_iteB ?hc ?q); (case hc => exact rfl))
  | ((with_reducible refine x_var (v := ?vv) ?hh ?qq); (case hh => exact rfl))
  | ((with_reducible refine r_isInt (d := ?dd) ?hh ?qq); (case hh => assumption)) | ((with_reducible refine r_isBool (d := ?dd) ?hh ?qq); (case hh => assumption)) | ((with_reducible refine r_isTup (d := ?dd) ?hh ?qq); (case hh => assumption))
  | ((with_reducible refine r_isStr (d := ?dd) ?hh ?qq); (case hh => assumption)) | ((with_reducible refine r_isLst (d := ?dd) ?hh ?qq); (case hh => assumption))))
local macro_rules | `(tactic| walk_at "y") => `(tactic| (repeat (walk_at "y1")))
section
variable {P : Program} {w : World} {K : PySem.W.Frag} {mg : Str → Option Value} {base : Heap}
abbrev s_refused : Stmt := top 47
abbrev nms_refused : List Str := ["box", "disk", "book", "page", "bad", "more", "thing", "other", "first"]
theorem sc_refused : FnScope nms_refused ["box", "disk", "book", "page"] (defScope s_refused) := ⟨rfl, rfl, rfl, by decide +kernel, rfl, by decide +kernel, by decide +kernel⟩
def tabT (Pt : Addr) : List (Addr × Str) := [(Pt, (PyProof.Rows.envOfC "_law_refused" (defScope s_refused) 0 0 .none).qual ++ ("<lambda>" : Str))]
theorem qual_envOfC (q : Str) (sc : Scope) (n f : Addr) (cdv : Value) : (PyProof.Rows.envOfC q sc n f cdv).qual = (PyProof.Rows.envOfC q sc 0 0 .none).qual := rfl
theorem tabT_eq (Pt : Addr) : [(Pt, (PyProof.Rows.envOfC "_law_refused" (defScope s_refused) 0 0 .none).qual ++ ("<lambda>" : Str))] = tabT Pt := by unfold tabT; rfl
/-- what is known while things are refused -/
structure RC (K : PySem.W.Frag) (CB CD Pt b d a : Addr) (bk : Bk) (S F : List Slot) (U : List (Nat × Entry)) (y : V) (p : Page) (H0 H : Hp) : Prop where
  g : GoT [b] H0 H
  bx : BoxAt b H
  dk : DskAt K CD d S F U H
  bo : BookAt K CB a d bk H
  wy : Wt K H y (pageD p)
  tb : Tabs (tabT Pt) H
section
variable {CB CD Pt b d a : Addr} {bk : Bk} {S F : List Slot} {U : List (Nat × Entry)} {M : Nat} {y : V} {p : Page} {H0 H H' : Hp}
theorem RC.exN (r : RC K CB CD Pt b d a bk S F U y p H0 H) (e : ExtN H H') (t : Tabs (tabT Pt) H') : RC K CB CD Pt b d a bk S F U y p H0 H' :=
  ⟨r.g.trans (goT_N e), r.bx.exN e, r.dk.exN e, r.bo.exN e, r.wy.exN e, t⟩
theorem RC.ex (r : RC K CB CD Pt b d a bk S F U y p H0 H) (e : Ex H H') : RC K CB CD Pt b d a bk S F U y p H0 H' := r.exN (ExtN.of e) (r.tb.ext e)
theorem RC.go (r : RC K CB CD Pt b d a bk S F U y p H0 H) (od : DskOk S F U M) (op : PageOk bk.page) (hp : PageOk p) (g : Go [b] H H') (hb : BoxAt b H') : RC K CB CD Pt b d a bk S F U y p H0 H' := by
  have hbx := r.bx
  obtain ⟨i, j, k, eb⟩ := r.bx
  have nd : d ∉ [b] := fun z => by
    obtain ⟨_, _, _, _, e, _⟩ := r.dk
    rw [List.mem_singleton.mp z, eb] at e; cases e
  have na : a ∉ [b] := fun z => by
    obtain ⟨_, _, e, _⟩ := r.bo
    rw [List.mem_singleton.mp z, eb] at e; cases e
  exact ⟨r.g.trans g.goT, hb, r.dk.go od g nd, r.bo.go op g na, r.wy.go g (lay_page hp).to, Tabs.go r.tb g fun s hs => by rw [List.mem_singleton.mp hs]; exact .inl ⟨_, eb⟩⟩
end
theorem errs_heard {C : Addr} {n : Int} {word : Str} {H : Hp} {Q : VK} (k : ∀ u H'', Ex H H'' → Wt K H'' u (.tuple [.str word, .int n]) → Q u H'') :
    Errs (fun cls d H' => cls = .ref C ∧ ∃ e, d = some e ∧ H' e = some (.xd [(("at" : Str), .int n)]) ∧ ∀ u H'', Ex H' H'' → Wt K H'' u (.tuple [.str word, .int n]) → Q u H'') C n H :=
  fun e H' ex he => ⟨rfl, e, rfl, he, fun u H'' ex2 wu => k u H'' (ex.trans ex2) wu⟩
theorem sm_word (word : Str) (n : Int) : Sm 10 (.tuple [.str word, .int n]) := (Sm.tup (n := 1) (by simp) (by decide) fun d hd => by
  simp only [List.mem_cons, List.not_mem_nil, or_false] at hd
  rcases hd with rfl | rfl
  · exact sm_str _
  · exact sm_int _).mono (by decide)
def badEs : List PyData := [.tuple [.int 1], .tuple [.int 1, .int 1, .int 0], .tuple [.int 1, .int 1, .int 0, .int 5], .tuple [.int (-1), .int 1, .int 0, .tuple []], .tuple [.int 1, .bool true, .int 0, .tuple []], .tuple [.int 1, .int 1, .int 0, .tuple [], .tuple []]]
theorem badEs_ok : ∀ x ∈ badEs, slotFine x = false ∧ SlotSide x ∧ tupOnly x = true := by
  intro x hx
  simp only [badEs, List.mem_cons, List.not_mem_nil, or_false] at hx
  have two : PageSide (.tuple []) := pageSide_mk fun e he => by cases he
  rcases hx with rfl | rfl | rfl | rfl | rfl | rfl
  · exact ⟨by decide +kernel, ⟨by decide +kernel, fun a b c p e => by simp at e⟩, rfl⟩
  · exact ⟨by decide +kernel, ⟨by decide +kernel, fun a b c p e => by simp at e⟩, rfl⟩
  · refine ⟨by decide +kernel, ⟨by decide +kernel, fun a b c p e => ?_⟩, rfl⟩
    simp only [PyData.tuple.injEq, List.cons.injEq, and_true] at e
    rw [← e.2.2.2]; exact pageSide_not rfl
  · refine ⟨by decide +kernel, ⟨by decide +kernel, fun a b c p e => ?_⟩, rfl⟩
    simp only [PyData.tuple.injEq, List.cons.injEq, and_true] at e
    rw [← e.2.2.2]; exact two
  · refine ⟨by decide +kernel, ⟨by decide +kernel, fun a b c p e => ?_⟩, rfl⟩
    simp only [PyData.tuple.injEq, List.cons.injEq, and_true] at e
    rw [← e.2.2.2]; exact two
  · exact ⟨by decide +kernel, ⟨by decide +kernel, fun a b c p e => by simp at e⟩, rfl⟩
def spRefused (K : PySem.W.Frag) (CB CD Pt : Addr) : Sp := fun vs H Q _ => ∃ (b d a : Addr), ∃ y p bk S F U M, vs = [.ref b, .ref d, .ref a, y] ∧ BoxAt b H ∧ DskAt K CD d S F U H ∧ DskOk S F U M ∧ BookAt K CB a d bk H ∧ PageOk bk.page ∧ bk.half ≤ 1 ∧ bk.last < M ∧ a ≠ d ∧ Wt K H y (pageD p) ∧ PageOk p ∧ Tabs (tabT Pt) H ∧
  ∀ H', GoT [b] H H' → Tabs (tabT Pt) H' → BoxAt b H' → Q (.bl true) H'
theorem ok_refused {f c Pt CB CD : Addr} {fd : FuncData} (ER : Ers P K mg) (EK : ExK K mg ER.cD ER.cP) (B : BookC K CB) (D : DiskC K CD) (I : IsD K CD CB) (F : Fun K "_law_refused" "_law_refused" s_refused f fd) (hcd : fd.code = .ref c) (TB : TabB base mg c Pt) (hm : mg "_law_refused" = some (.ref f)) (b : Binds K fd ["box", "disk", "book", "page"] []) (T : Bt mg)
    {gH : Addr} {fdH : FuncData} (FH : Fun K "_law_heard" "_law_heard" s_heard gH fdH) (hmH : mg "_law_heard" = some (.ref gH)) (bH : Binds K fdH ["work"] [])
    (c_take : Cal P w K mg base 1 "_law_take" spTake) (c_pick : Cal P w K mg base 2 "_law_pick" spPick) (c_no_page : Cal P w K mg base 3 "_law_no_page" (spNoPage K)) (c_same : Cal P w K mg base 10 "_law_same" (spSame K 10))
    (cDisk : Mak P w K mg base 3 "Disk" CD (spDiskInit K CD)) (m_Disk_put : Met P w K mg base 2 CD "put" (spPut K CD)) (cJournal : Mak P w K mg base 7 "Journal" CB (spOpen P K mg ER CB CD)) (m_Journal_add_row : Met P w K mg base 4 CB "add_row" (spAdd P K mg ER CB CD)) :
    Cal P w K mg base 12 "_law_refused" (spRefused K CB CD Pt) := by
  have FHk := FH.kp
  obtain ⟨ocH, odH, kVH, docH, pmH, anH, cdvH, ctH, oslH, rfl, lkH, hcdH⟩ := FH.ex
  refine cal_ofC F hm b sc_refused (fun vs H Q E h => ?_) (fun cdv hcdv A outer s H vs Q E hr h => ?_)
  · obtain ⟨b, d, a, y, p, bk, S, F, U, M, rfl, _⟩ := h
    rfl
  · obtain ⟨b, d, a, y, p, bk, S, F, U, M, rfl, hb, hd, od, hbk, opk, hh, hl, nad, wy, hp, hT, q⟩ := h
    have hu64 := pass_hu64 hr
    have hcode : cdv = .ref c := hcdv.symm.trans hcd
    refine ⟨_, (pss_cons (ps_asg (pe_tup (pa_cons (pe_c c_no_page hr (by decide) (by rfl) (pa_cons (pv 0) (pa_cons (pv 3) (pa_cons (pv 1) pa_nil)))) (pa_cons (pe_c c_no_page hr (by decide) (by rfl) (pa_cons (pv 0) (pa_cons (pv 3) (pa_cons (pv 2) pa_nil)))) pa_nil))) (pg_tup (n := 2) rfl (pgs_cons (pg_name (i := 4) sc_refused.nd rfl (by first | exact Or.inl rfl | exact Or.inr rfl)) (pgs_cons (pg_name (i := 5) sc_refused.nd rfl (by first | exact Or.inl rfl | exact Or.inr rfl)) pgs_nil))))
    (pss_cons (ps_set (i := 6) sc_refused.nd rfl (by first | exact Or.inl rfl | exact Or.inr rfl) (pe_c c_pick hr (by decide) (by rfl) (pa_cons (pv 0) (pa_cons (pe_lst (pa_cons pe_non (pa_cons pe_int (pa_cons (pe_fld (pv 1) rfl) (pa_cons (pv 2) pa_nil))))) pa_nil))))
    (pss_cons (ps_if (pt_not (pt_val (pe_c c_same hr (by decide) (by rfl) (pa_cons (lam1 (k := 8) (by rfl) hmH FHk lkH hcdH bH sc_heard rfl (Or.inl rfl) (heard_gives ER EK ER.cP "page" (-1) (Or.inl ⟨rfl, rfl⟩)) TB hcode (hr.mono (by decide)) (lamS_by (sc := defScope s_refused) (by decide +kernel)) rfl (fun _ _ _ _ _ => rfl) (fun A2 outer2 s2 H2 E2 f2 c2 hr2 => (pe_mtX m_Journal_add_row hr2 (by decide) (passes_call (takes_of rfl rfl rfl rfl) (fun _ _ _ _ h => h)) (pv 2) (pa_cons (pv 4) pa_nil)))) (pa_cons (pe_tup (pa_cons pe_str (pa_cons (pe_un un_neg pe_int) pa_nil))) pa_nil)))))
    (pss_one (ps_ret pe_bl))
    pss_nil)
    (pss_cons (ps_if (pt_not (pt_val (pe_c c_same hr (by decide) (by rfl) (pa_cons (lam1 (k := 8) (by rfl) hmH FHk lkH hcdH bH sc_heard rfl (Or.inl rfl) (heard_gives ER EK ER.cP "page" 1 (Or.inl ⟨rfl, rfl⟩)) TB hcode (hr.mono (by decide)) (lamS_by (sc := defScope s_refused) (by decide +kernel)) rfl (fun _ _ _ _ _ => rfl) (fun A2 outer2 s2 H2 E2 f2 c2 hr2 => (pe_mkX cJournal hr2 (by decide) (passes_call (takes_of rfl rfl rfl rfl) (fun _ _ _ _ h => h)) (by rfl) (pa_cons (pv 1) (pa_cons (pv 5) pa_nil))))) (pa_cons (pe_tup (pa_cons pe_str (pa_cons pe_int pa_nil))) pa_nil)))))
    (pss_one (ps_ret pe_bl))
    pss_nil)
    (pss_cons (ps_set (i := 7) sc_refused.nd rfl (by first | exact Or.inl rfl | exact Or.inr rfl) (pe_mk cDisk hr (by decide) (by rfl) (pa_cons pe_int pa_nil)))
    (pss_cons (ps_expr (pe_mtX m_Disk_put hr (by decide) passL (pv 7) (pa_cons (pe_c c_take hr (by decide) (by rfl) (pa_cons (pv 0) (pa_cons pe_int pa_nil))) (pa_cons (pe_c c_pick hr (by decide) (by rfl) (pa_cons (pv 0) (pa_cons (pe_lst (pa_cons (pe_tup (pa_cons pe_int pa_nil)) (pa_cons (pe_tup (pa_cons pe_int (pa_cons pe_int (pa_cons pe_int pa_nil)))) (pa_cons (pe_tup (pa_cons pe_int (pa_cons pe_int (pa_cons pe_int (pa_cons pe_int pa_nil))))) (pa_cons (pe_tup (pa_cons (pe_un un_neg pe_int) (pa_cons pe_int (pa_cons pe_int (pa_cons (pe_tup pa_nil) pa_nil))))) (pa_cons (pe_tup (pa_cons pe_int (pa_cons pe_bl (pa_cons pe_int (pa_cons (pe_tup pa_nil) pa_nil))))) (pa_cons (pe_tup (pa_cons pe_int (pa_cons pe_int (pa_cons pe_int (pa_cons (pe_tup pa_nil) (pa_cons (pe_tup pa_nil) pa_nil)))))) pa_nil))))))) pa_nil))) pa_nil))))
    (pss_cons (ps_for (passes_of rfl) rfl (pi_list (pe_lst (pa_cons (pv 3) (pa_cons (pv 4) pa_nil)))) (pg_name (i := 8) sc_refused.nd rfl (by first | exact Or.inl rfl | exact Or.inr rfl))
    (pss_cons (ps_if (pt_not (pt_val (pe_c c_same hr (by decide) (by rfl) (pa_cons (lam1 (k := 8) (by rfl) hmH FHk lkH hcdH bH sc_heard rfl (Or.inl rfl) (heard_gives ER EK ER.cD "disk" (-1) (Or.inr ⟨rfl, rfl⟩)) TB hcode (hr.mono (by decide)) (lamS_by (sc := defScope s_refused) (by decide +kernel)) rfl (fun _ _ _ _ _ => rfl) (fun A2 outer2 s2 H2 E2 f2 c2 hr2 => (pe_mkX cJournal hr2 (by decide) (passes_call (takes_of rfl rfl rfl rfl) (fun _ _ _ _ h => h)) (by rfl) (pa_cons (pv 6) (pa_cons (pv 8) pa_nil))))) (pa_cons (pe_tup (pa_cons pe_str (pa_cons (pe_un un_neg pe_int) pa_nil))) pa_nil)))))
    (pss_one (ps_ret pe_bl))
    pss_nil)
    (pss_one (ps_if (pt_not (pt_val (pe_c c_same hr (by decide) (by rfl) (pa_cons (lam1 (k := 8) (by rfl) hmH FHk lkH hcdH bH sc_heard rfl (Or.inl rfl) (heard_gives ER EK ER.cD "disk" (-1) (Or.inr ⟨rfl, rfl⟩)) TB hcode (hr.mono (by decide)) (lamS_by (sc := defScope s_refused) (by decide +kernel)) rfl (fun _ _ _ _ _ => rfl) (fun A2 outer2 s2 H2 E2 f2 c2 hr2 => (pe_mkX cJournal hr2 (by decide) (passes_call (takes_of rfl rfl rfl rfl) (fun _ _ _ _ h => h)) (by rfl) (pa_cons (pv 7) (pa_cons (pv 8) pa_nil))))) (pa_cons (pe_tup (pa_cons pe_str (pa_cons (pe_un un_neg pe_int) pa_nil))) pa_nil)))))
    (pss_one (ps_ret pe_bl))
    pss_nil))))
    (pss_one (ps_ret pe_bl))))))))), ?_⟩
    try dsimp only [cxOf]
    simp only [qual_envOfC _ _ s.heap.objs.size, tabT_eq]
    have r0 : RC K CB CD Pt b d a bk S F U y p H H := ⟨⟨fun _ _ _ h _ => h, fun _ _ h => h⟩, hb, hd, hbk, wy, hT⟩
    have oD : ∀ {H' : Hp}, RC K CB CD Pt b d a bk S F U y p H H' → Wt K H' (.ref d) (.dict []) := fun r => by
      obtain ⟨_, _, _, _, e, _⟩ := r.dk
      exact .obj e D.ins
    have oB : ∀ {H' : Hp}, RC K CB CD Pt b d a bk S F U y p H H' → Wt K H' (.ref a) (.dict []) := fun r => by
      obtain ⟨_, _, e, _⟩ := r.bo
      exact .obj e B.ins
    walk_at "y"
    refine ⟨b, y, .ref d, p, rfl, hb, wy, hp, oD r0, fun x1 d1 H1 g1 hb1 w1 o1 => ?_⟩
    have r1 := r0.go od opk hp g1 hb1
    walk_at "y"
    refine ⟨b, y, .ref a, p, rfl, hb1, r1.wy, hp, oB r1, fun x2 d2 H2 g2 hb2 w2 o2 => ?_⟩
    have r2 := r1.go od opk hp g2 hb2
    have w1 := w1.aside g2 (fun s hs => by rw [List.mem_singleton.mp hs]; exact .inl hb1) o1.tr
    walk_at "y"
    refine x_mkr fun p3 H3 e3 n3 h3 => ?_
    walk_at "y"
    refine x_gtup h3 rfl ?_
    have r3 := r2.ex e3
    have w1 := w1.ex e3
    have w2 := w2.ex e3
    obtain ⟨dx, v1, v2, v3, ed, wd1, wd2, wd3⟩ := r3.dk
    walk_at "y"
    refine x_kfld ed D.ins.cl D.a_slots rfl ?_
    walk_at "y"
    refine x_mkl fun p4 H4 e4 n4 h4 => ?_
    have r4 := r3.ex e4
    have w1 := w1.ex e4
    have w2 := w2.ex e4
    have nb4 : b ≠ p4 := fun z => box_ne r3.bx (by rw [z]; exact n4)
    walk_at "y"
    refine ⟨b, p4, _, rfl, r4.bx, h4, nb4, by simp, by simp, fun i x5 H5 hx5 g5 hb5 => ?_⟩
    have r5 := r4.go od opk hp g5 hb5
    have w1 := w1.aside g5 (fun s hs => by rw [List.mem_singleton.mp hs]; exact .inl r4.bx) o1.tr
    have w2 := w2.aside g5 (fun s hs => by rw [List.mem_singleton.mp hs]; exact .inl r4.bx) o2.tr
    have nd5 : ∀ {H' : Hp}, RC K CB CD Pt b d a bk S F U y p H H' → (∀ q xs, H5 q = some (.tup xs) → H' q = some (.tup xs)) → NotDisk K CD CB H' x5 := fun r ht => by
      match i with
      | 0 => cases hx5; exact .inl rfl
      | 1 => cases hx5; exact .inr (.inl ⟨_, rfl⟩)
      | 2 =>
        cases hx5
        have wd := (wd1.ex e4).go g5 (lay_slots od.s).to
        cases wd with
        | @tup q xs _ eq wq => exact .inr (.inr (.inl ⟨q, xs, rfl, ht q xs eq⟩))
      | 3 =>
        cases hx5
        obtain ⟨dx, v, e, _⟩ := r.bo
        exact .inr (.inr (.inr ⟨a, dx, _, rfl, e⟩))
      | _ + 4 => cases hx5
    walk_at "y"
    -- a bad row
    refine x_lam r5.tb fun H6 e6 t6 => ?_
    have r6 := r5.exN e6 t6
    have w1 := w1.exN e6
    have w2 := w2.exN e6
    unfold THeard
    dsimp only
    walk_at "y"
    obtain ⟨dxa, va, ea, wva⟩ := r6.bo
    refine x_kmeth ea rfl ?_
    walk_at "y"
    refine ⟨a, d, x1, bk, S, F, U, M, d1, rfl, r6.bo, r6.dk, od, opk, hh, hl, w1, o1.sd, nad, .inl ⟨o1.no, errs_heard fun u7 H7 e7 wu7 => ?_⟩⟩
    have r7 := r6.ex e7
    have w1 := w1.ex e7
    have w2 := w2.ex e7
    walk_at "y"
    refine x_mkt (K := K) (.cons (.str _) (.cons (.int _) .nil)) fun u8 H8 e8 w8 => ?_
    walk_at "y"
    refine ⟨u7, u8, _, rfl, wu7.ex e8, w8, sm_word _ _, fun H9 e9 => ?_⟩
    have r9 := r7.ex (e8.trans e9)
    have w1 := w1.ex (e8.trans e9)
    have w2 := w2.ex (e8.trans e9)
    walk_at "y"
    -- a bad first page
    refine x_lam r9.tb fun H10 e10 t10 => ?_
    have r10 := r9.exN e10 t10
    have w1 := w1.exN e10
    have w2 := w2.exN e10
    try unfold THeard
    try dsimp only
    walk_at "y"
    refine fun xn dn hxn hdn hne => ?_
    have e11 : Ex H10 (upd (upd H10 dn (.own xn)) xn (.ins CB dn [])) := (Ex.new hdn).trans (Ex.new (by rw [upd_ne (Ne.symm hne)]; exact hxn))
    have hx11 : (upd (upd H10 dn (.own xn)) xn (.ins CB dn [])) xn = some (.ins CB dn []) := upd_same
    revert e11 hx11
    generalize upd (upd H10 dn (.own xn)) xn (.ins CB dn []) = H11
    intro e11 hx11
    have r11 := r10.ex e11
    have w1 := w1.ex e11
    have w2 := w2.ex e11
    have nxd : xn ≠ d := fun z => by
      obtain ⟨_, _, _, _, e, _⟩ := r10.dk
      rw [← z, hxn] at e; cases e
    refine ⟨xn, .ref d, x2, dn, rfl, hx11, .inr ⟨d, S, F, U, M, rfl, r11.dk, od, nxd, .inl ⟨d2, w2, o2.sd, o2.no, errs_heard fun u12 H12 e12 wu12 => ?_⟩⟩⟩
    have r12 := r11.ex e12
    have w1 := w1.ex e12
    walk_at "y"
    refine x_mkt (K := K) (.cons (.str _) (.cons (.int _) .nil)) fun u13 H13 e13 w13 => ?_
    walk_at "y"
    refine ⟨u12, u13, _, rfl, wu12.ex e13, w13, sm_word _ _, fun H14 e14 => ?_⟩
    have r14 := r12.ex (e13.trans e14)
    have w1 := w1.ex (e13.trans e14)
    walk_at "y"
    -- another disk, with an odd entry
    refine fun on dn2 hon hdn2 hne2 => ?_
    have e15 : Ex H14 (upd (upd H14 dn2 (.own on)) on (.ins CD dn2 [])) := (Ex.new hdn2).trans (Ex.new (by rw [upd_ne (Ne.symm hne2)]; exact hon))
    have hx15 : (upd (upd H14 dn2 (.own on)) on (.ins CD dn2 [])) on = some (.ins CD dn2 []) := upd_same
    revert e15 hx15
    generalize upd (upd H14 dn2 (.own on)) on (.ins CD dn2 []) = H15
    intro e15 hx15
    refine ⟨on, dn2, 4, rfl, hx15, ⟨by decide, by decide, by decide⟩, fun H16 g16 ho16 => ⟨rfl, ?_⟩⟩
    have e16 : Ex H14 H16 := ex_of_go e15 hon g16
    have r16 := r14.ex e16
    have w1 := w1.ex e16
    have nbo : b ≠ on := fun z => box_ne r14.bx (by rw [z]; exact hon)
    have ok4 : DOk (List.replicate 4 (PyData.tuple [])) (List.replicate 4 (PyData.tuple [])) [] := ⟨fun x hx => by rw [(List.mem_replicate.mp hx).2]; rfl, fun x hx => by rw [(List.mem_replicate.mp hx).2]; rfl, by simp⟩
    walk_at "y"
    obtain ⟨dxo, z1, z2, z3, eo, _⟩ := id ho16
    refine x_kmeth eo rfl ?_
    walk_at "y"
    refine ⟨b, 4, rfl, r16.bx, by decide, by decide, fun rn H17 hrn g17 hb17 => ?_⟩
    refine x_cons (x_call (x_cons (x_var rfl (x_cons ?_))))
    refine ev_lst (K := K) (ds := badEs) ?_ (by decide) H17 (Ex.refl _) _ fun v18 H18 e18 w18 => ?_
    · refine ev_cons (ev_tup (ev_cons ev_int ev_nil)) (ev_cons (ev_tup (ev_cons ev_int (ev_cons ev_int (ev_cons ev_int ev_nil)))) (ev_cons (ev_tup (ev_cons ev_int (ev_cons ev_int (ev_cons ev_int (ev_cons ev_int ev_nil))))) ?_))
      refine ev_cons (ev_tup (ev_cons (ev_neg ev_int) (ev_cons ev_int (ev_cons ev_int (ev_cons (ev_tup ev_nil) ev_nil))))) (ev_cons (ev_tup (ev_cons ev_int (ev_cons ev_bl (ev_cons ev_int (ev_cons (ev_tup ev_nil) ev_nil))))) ?_)
      exact ev_cons (ev_tup (ev_cons ev_int (ev_cons ev_int (ev_cons ev_int (ev_cons (ev_tup ev_nil) (ev_cons (ev_tup ev_nil) ev_nil)))))) ev_nil
    cases w18 with
    | @lst l18 xs18 _ ea18 wa18 =>
    have hb18 := hb17.go e18.go (S := []) (by simp)
    have len18 : xs18.length = 6 := by rw [wa18.len]; rfl
    have nbl : b ≠ l18 := fun z => by
      obtain ⟨i, j, k, e⟩ := hb18
      rw [z, ea18] at e
      cases e
      simp at len18
    walk_at "y"
    refine ⟨b, l18, xs18, rfl, hb18, ea18, nbl, by omega, by omega, fun ib xe H19 hxe g19 hb19 => ?_⟩
    obtain ⟨de, hde, wde⟩ := wa18.get hxe
    obtain ⟨bad1, bad2, bad3⟩ := badEs_ok de (List.mem_of_getElem? hde)
    have wde := wde.go g19 bad3
    have g1619 : Go [b] H16 H19 := g17.trans (e18.go.trans g19)
    have ho19 : DiskAt K CD on _ _ _ H19 := ho16.go ok4 g1619 (by simp [Ne.symm nbo])
    walk_at "y"
    refine ⟨on, rn, xe, de, _, _, _, rfl, ho19, ok4, by simp; exact hrn, wde, bad3, by simp, by simp, fun H20 g20 ho20 => ?_⟩
    have G20 : Go [b] H14 H20 := Go.fresh (Ex.refl _) hon ((e16.go.trans (g1619.mono (by simp))).trans (g20.mono (by simp)))
    have hb20 : BoxAt b H20 := hb19.go g20 (by simp [nbo])
    have r20 := r14.go od opk hp G20 hb20
    have t520 : ∀ q xs, H5 q = some (.tup xs) → H20 q = some (.tup xs) := fun q xs h =>
      G20.tup q xs (e14 _ _ (e13 _ _ (e12 _ _ (e11 _ _ (e10 _ _ (e9 _ _ (e8 _ _ (e7 _ _ (e6 _ _ h (fun _ z => by cases z))))) (fun _ z => by cases z))))))
    have hsl : ((List.replicate 4 (PyData.tuple [])).set rn de).length = 4 := by simp
    have hf : ((List.replicate 4 (PyData.tuple [])).set rn de).all slotFine = false := by
      rw [List.all_eq_false]
      refine ⟨de, ?_, by rw [bad1]; decide⟩
      exact List.mem_of_getElem? (i := rn) (List.getElem?_set_self (by simp; exact hrn))
    have hside : ∀ x ∈ (List.replicate 4 (PyData.tuple [])).set rn de, SlotSide x := fun x hx => by
      rcases List.mem_or_eq_of_mem_set hx with z | z
      · rw [(List.mem_replicate.mp z).2]
        exact slotSide_ok (s := none) (fun e he => by cases he)
      · rw [z]; exact bad2
    revert hsl hf hside ho20
    generalize (List.replicate 4 (PyData.tuple [])).set rn de = slo
    generalize ([] ++ [(rn, de)] : List (Nat × PyData)) = puo
    intro ho20 hsl hf hside
    have disk_ex : ∀ {H1 H2 : Hp}, DiskAt K CD on slo (List.replicate 4 (PyData.tuple [])) puo H1 → ExtN H1 H2 → DiskAt K CD on slo (List.replicate 4 (PyData.tuple [])) puo H2 := fun h e => by
      obtain ⟨dx, v1, v2, v3, h, w1, w2, w3⟩ := h
      exact ⟨dx, v1, v2, v3, e _ _ h (fun _ z => by cases z), w1.exN e, w2.exN e, w3.exN e⟩
    clear w1 w2
    walk_at "y"
    refine x_mkl fun pl H21 e21 n21 h21 => ?_
    refine y_forL (fun i σ H' => RC K CB CD Pt b d a bk S F U y p H H' ∧ (∀ q xs, H5 q = some (.tup xs) → H' q = some (.tup xs)) ∧ DiskAt K CD on slo (List.replicate 4 (PyData.tuple [])) puo H' ∧ H' pl = some (.lst [y, x1]) ∧ ∃ o, σ = [some (.ref b), some (.ref d), some (.ref a), some y, some x1, some x2, some x5, some (.ref on), o])
      h21 ⟨r20.ex e21, fun q xs h => e21 _ _ (t520 q xs h), disk_ex ho20 (ExtN.of e21), h21, _, rfl⟩ (fun i σ H' p => p.2.2.2.1) (fun i x σ H22 hx q22 => ?_) fun σ H22 q22 => ?_
    · obtain ⟨r22, t22, o22, l22, oo, rfl⟩ := q22
      walk_at "y"
      refine x_lam r22.tb fun H23 e23 t23 => ?_
      have r23 := r22.exN e23 t23
      have tt23 : ∀ q xs, H5 q = some (.tup xs) → H23 q = some (.tup xs) := fun q xs h => e23 _ _ (t22 q xs h) (fun _ z => by cases z)
      have o23 := disk_ex o22 e23
      have l23 := e23 _ _ l22 (fun _ z => by cases z)
      try unfold THeard
      try dsimp only
      walk_at "y"
      refine fun xn dn hxn hdn hne => ?_
      have e24 : Ex H23 (upd (upd H23 dn (.own xn)) xn (.ins CB dn [])) := (Ex.new hdn).trans (Ex.new (by rw [upd_ne (Ne.symm hne)]; exact hxn))
      have hx24 : (upd (upd H23 dn (.own xn)) xn (.ins CB dn [])) xn = some (.ins CB dn []) := upd_same
      revert e24 hx24
      generalize upd (upd H23 dn (.own xn)) xn (.ins CB dn []) = H24
      intro e24 hx24
      have r24 := r23.ex e24
      refine ⟨xn, x5, x, dn, rfl, hx24, .inl ⟨errs_heard fun u25 H25 e25 wu25 => ?_, .inl (nd5 r24 fun q xs h => e24 _ _ (tt23 q xs h))⟩⟩
      walk_at "y"
      refine x_mkt (K := K) (.cons (.str _) (.cons (.int _) .nil)) fun u26 H26 e26 w26 => ?_
      walk_at "y"
      refine ⟨u25, u26, _, rfl, wu25.ex e26, w26, sm_word _ _, fun H27 e27 => ?_⟩
      have E27 := e24.trans (e25.trans (e26.trans e27))
      have r27 := r23.ex E27
      walk_at "y"
      refine x_lam r27.tb fun H28 e28 t28 => ?_
      have r28 := r27.exN e28 t28
      have tt28 : ∀ q xs, H5 q = some (.tup xs) → H28 q = some (.tup xs) := fun q xs h => e28 _ _ (E27 _ _ (tt23 q xs h)) (fun _ z => by cases z)
      have o28 := disk_ex (disk_ex o23 (ExtN.of E27)) e28
      have l28 := e28 _ _ (E27 _ _ l23) (fun _ z => by cases z)
      try unfold THeard
      try dsimp only
      walk_at "y"
      refine fun xm dm hxm hdm hne3 => ?_
      have e29 : Ex H28 (upd (upd H28 dm (.own xm)) xm (.ins CB dm [])) := (Ex.new hdm).trans (Ex.new (by rw [upd_ne (Ne.symm hne3)]; exact hxm))
      have hx29 : (upd (upd H28 dm (.own xm)) xm (.ins CB dm [])) xm = some (.ins CB dm []) := upd_same
      revert e29 hx29
      generalize upd (upd H28 dm (.own xm)) xm (.ins CB dm []) = H29
      intro e29 hx29
      refine ⟨xm, .ref on, x, dm, rfl, hx29, .inl ⟨errs_heard fun u30 H30 e30 wu30 => ?_, .inr ⟨on, slo, _, puo, rfl, disk_ex o28 (ExtN.of e29), by rw [hsl]; exact ⟨by decide, by decide, by decide⟩, hside, hf⟩⟩⟩
      walk_at "y"
      refine x_mkt (K := K) (.cons (.str _) (.cons (.int _) .nil)) fun u31 H31 e31 w31 => ?_
      walk_at "y"
      refine ⟨u30, u31, _, rfl, wu30.ex e31, w31, sm_word _ _, fun H32 e32 => ?_⟩
      have E32 := e29.trans (e30.trans (e31.trans e32))
      walk_at "y"
      exact ⟨r28.ex E32, fun q xs h => E32 _ _ (tt28 q xs h), disk_ex o28 (ExtN.of E32), E32 _ _ l28, _, rfl⟩
    · obtain ⟨r22, t22, o22, l22, oo, rfl⟩ := q22
      walk_at "y"
      exact q H22 r22.g r22.tb r22.bx
end
end Y
/-! part C11 -/
/-! A fall, and the opening behind it. -/
namespace Y
open PySem L2
theorem oInK {X : Cx} (K : PySem.W.Frag) (hu : X.A.units + 65 < cLine) (h : X.K = K := by rfl) : OpR X (compareOp .In) (rInD K) := by subst h; exact op_inD hu
local macro_rules | `(tactic| walk_at "y1") => `(tactic| (first
  | (with_reducible refine x_seq ?_) | (with_reducible refine x_asg ?_) | (with_reducible refine x_name ?_) | (with_reducible refine x_drop ?_) | (with_reducible refine x_ret ?_) | (with_reducible refine x_retN ?_)
  | (with_reducible refine x_next ?_) | (with_reducible refine x_brk ?_) | (with_reducible refine x_ifS ?_)
  | (with_reducible refine x_c ?_) | (with_reducible refine x_op ?_) | (with_reducible refine x_un ?_) | (with_reducible refine x_cb ?_) | (with_reducible refine x_cons ?_) | (with_reducible refine x_nil ?_)
  | (with_reducible refine x_call ?_) | (with_reducible refine x_tup ?_) | (with_reducible refine x_lst ?_) | (with_reducible refine x_sl ?_) | (with_reducible refine x_nopart ?_) | (with_reducible refine x_part ?_)
  | (with_reducible refine x_andV ?_) | (with_reducible refine x_orV ?_) | (with_reducible refine x_notV ?_) | (with_reducible refine x_if ?_) | (with_reducible refine x_test ?_) | (with_reducible refine x_tb ?_)
  | (with_reducible refine x_and ?_) | (with_reducible refine x_or ?_) | (with_reducible refine x_not ?_) | (with_reducible refine x_chain ?_) | (with_reducible refine x_exbl ?_) | (with_reducible refine x_exint ?_)
  | (with_reducible refine x_fld ?_) | (with_reducible refine x_sfld ?_) | (with_reducible refine x_par ?_) | (with_reducible refine x_par3 ?_) | (with_reducible refine x_dget ?_) | (with_reducible refine x_dput ?_)
  | (with_reducible refine x_bm ?_) | (with_reducible refine x_bm0 ?_) | (with_reducible refine x_pair ?_) | (with_reducible refine x_tri ?_) | (with_reducible refine x_int ?_) | (with_reducible refine x_intb ?_) | (with_reducible refine x_abs ?_) | (with_reducible refine x_isN ?_) | (with_reducible refine x_notN ?_) | (with_reducible refine x_meth ?_) | (with_reducible refine x_make ?_)
  | (with_reducible refine x_ite1 ?_) | (with_reducible refine x_ite0 ?_)
  | (with_reducible refine x_addi ?_) | (with_reducible refine x_neg ?_) | (with_reducible refine x_i0 ?_) | (with_reducible refine x_eqi ?_) | (with_reducible refine x_eqs ?_) | (with_reducible refine x_eqb ?_) | (with_reducible refine x_nei ?_) | (with_reducible refine x_lti ?_)
  | (with_reducible refine x_forL ?_) | (with_reducible refine x_forT ?_) | (with_reducible refine x_forR ?_) | (with_reducible refine x_forR2 ?_) | (with_reducible refine x_lcL ?_) | (with_reducible refine x_lcT ?_) | (with_reducible refine x_lcR ?_)
  | (with_reducible refine x_yes ?_) | (with_reducible refine x_pcons ?_) | (with_reducible refine x_pnil ?_) | (with_reducible refine x_gcons ?_) | (with_reducible refine x_gnil ?_) | (with_reducible refine x_gattr ?_) | (with_reducible refine x_raise ?_) | (with_reducible refine x_gsub ?_) | (with_reducible refine x_fldaug ?_) | (with_reducible refine x_radd ?_) | (with_reducible refine x_ipi ?_) | ((with_reducible refine x_aug (x := ?vv) ?hh ?qq); (case hh => exact rfl))
  | ((with_reducible refine x_iteA ?hc ?q); (case hc => exact rfl)) | ((with_reducible refine x_iteB ?hc ?q); (case hc => exact rfl))
  | ((with_reducible refine x_var (v := ?vv) ?hh ?qq); (case hh => exact rfl))
  | ((with_reducible refine r_isInt (d := ?dd) ?hh ?qq); (case hh => assumption)) | ((with_reducible refine r_isBool (d := ?dd) ?hh ?qq); (case hh => assumption)) | ((with_reducible refine r_isTup (d := ?dd) ?hh ?qq); (case hh => assumption))
  | ((with_reducible refine r_isStr (d := ?dd) ?hh ?qq); (case hh => assumption)) | ((with_reducible refine r_isLst (d := ?dd) ?hh ?qq); (case hh => assumption))))
local macro_rules | `(tactic| walk_at "y") => `(tactic| (repeat (walk_at "y1")))
theorem asc_len {ns : List Nat} {m : Nat} (h : Asc ns m) : ns.length ≤ m := by
  have := nodup_len (a := ns) (b := List.range m) (h.1.imp fun {a b} hl e => by subst e; exact Nat.lt_irrefl _ hl) fun x hx => List.mem_range.mpr (h.2 x hx)
  rw [List.length_range] at this
  exact this
theorem cutS_len (U : List (Nat × Entry)) : ∀ (ns : List Nat) (F : List Slot), (cutS U F ns).length = F.length
  | [], F => rfl
  | n :: ns, F => by
    show (cutS U (putS U F n) ns).length = _
    rw [cutS_len U ns]
    unfold putS
    split <;> simp
theorem cutS_ok {U : List (Nat × Entry)} (hU : ∀ p ∈ U, EntOk p.2) : ∀ (ns : List Nat) (F : List Slot), (∀ s ∈ F, SlotOk s) → ∀ s ∈ cutS U F ns, SlotOk s
  | [], F, h => h
  | n :: ns, F, h => by
    refine cutS_ok hU ns (putS U F n) fun s hs => ?_
    unfold putS at hs
    cases e : U[n]? with
    | none => rw [e] at hs; exact h s hs
    | some p =>
      rw [e] at hs
      rcases List.mem_or_eq_of_mem_set hs with z | z
      · exact h s z
      · rw [z]
        intro e' he
        cases he
        exact hU p (List.mem_of_getElem? e)
theorem DskOk.cut {S F : List Slot} {U : List (Nat × Entry)} {M : Nat} (h : DskOk S F U M) (ns : List Nat) : DskOk (cutS U F ns) (cutS U F ns) [] M :=
  ⟨cutS_ok (fun p hp => (h.u p hp).1) ns F h.f, cutS_ok (fun p hp => (h.u p hp).1) ns F h.f, by simp, by rw [cutS_len, h.lf], by rw [cutS_len, h.lf], h.m1, h.m2, by simp⟩
theorem line_shaped {line : List Page} (h : ∀ p ∈ line, PageOk p) : SeqAt.shaped (.list (line.map pageD)) = true := by
  have l : ∀ d ∈ line.map pageD, Lay 5 d := fun d hd => by
    obtain ⟨p, hp, rfl⟩ := List.mem_map.mp hd
    exact lay_page (h p hp)
  unfold SeqAt.shaped
  have h1 : (PyData.list (line.map pageD)).canLay0 = true := layAll fun d hd => (l d hd).ly
  have h2 : (PyData.list (line.map pageD)).depth ≤ 64 := by
    show PyData.depthAll (line.map pageD) + 1 ≤ 64
    have := depthAll_le (n := 5) fun d hd => (l d hd).dp
    omega
  rw [h1, decide_eq_true h2]
  rfl
theorem mem_eqv {D : List PyData} {x : PyData} (h : x ∈ D) (l : x.canLay0 = true) : (D.any fun z => PyData.eqv z x) = true :=
  List.any_eq_true.mpr ⟨x, h, SeqAt.eqv_refl x l⟩
section
variable {P : Program} {w : World} {K : PySem.W.Frag} {mg : Str → Option Value} {base : Heap}
/-- disk, book and the law's own stand for one state -/
structure Sync (K : PySem.W.Frag) (CB CD d a dd od ls lf lp : Addr) (S F : List Slot) (U : List (Nat × Entry)) (bk : Bk) (H : Hp) : Prop where
  dk : DskAt K CD d S F U H
  bo : BookAt K CB a d bk H
  ld : LDisk K dd ls lf lp S F U H
  ow : OwnAt K od bk H
def spFallen (K : PySem.W.Frag) (CB CD : Addr) : Sp := fun vs H Q _ => ∃ (b d dd ln : Addr), ∃ ls lf lp S F U M bk line vl, vs = [.ref b, .ref d, .ref dd, .ref ln] ∧ BoxAt b H ∧ DskAt K CD d S F U H ∧ LDisk K dd ls lf lp S F U H ∧ DskOk S F U M ∧ Inv2 S F U M bk line ∧
  H ln = some (.lst vl) ∧ WtL K H vl (line.map pageD) ∧ (∀ p ∈ line, PageOk p) ∧ b ≠ ln ∧ b ≠ ls ∧ b ≠ lf ∧ b ≠ lp ∧
  ∀ x H' a' od' ls' lf' lp' S' bk', Go [b, d, dd] H H' → BoxAt b H' → H' x = some (.tup [.ref a', .ref od', .bl true]) → H a' = none → H od' = none → H ls' = none → H lf' = none → H lp' = none → DskOk S' S' [] M → PageOk bk'.page →
    Inv2 S' S' [] M bk' [bk'.page] → Sync K CB CD d a' dd od' ls' lf' lp' S' S' [] bk' H' → Q (.ref x) H'
abbrev s_fallen : Stmt := top 48
abbrev nms_fallen : List Str := ["box", "disk", "slots", "line", "kept", "given", "told", "own", "book"]
theorem sc_fallen : FnScope nms_fallen ["box", "disk", "slots", "line"] (defScope s_fallen) := ⟨rfl, rfl, rfl, by decide +kernel, rfl, by decide +kernel, by decide +kernel⟩
theorem ok_fallen {f CB CD : Addr} {fd : FuncData} (ER : Ers P K mg) (B : BookC K CB) (D : DiskC K CD) (F : Fun K "_law_fallen" "_law_fallen" s_fallen f fd) (hm : mg "_law_fallen" = some (.ref f)) (b : Binds K fd ["box", "disk", "slots", "line"] []) (T : Bt mg)
    (c_some : Cal P w K mg base 2 "_law_some" spSome) (c_pick : Cal P w K mg base 2 "_law_pick" spPick) (m_Disk_fall : Met P w K mg base 3 CD "fall" (spFall K CD)) (c_cut : Cal P w K mg base 1 "_law_cut" (spCut K)) (c_book : Cal P w K mg base 4 "_law_book" (spBookL K)) (c_row : Cal P w K mg base 4 "_law_row" (spRowL K))
    (cJournal : Mak P w K mg base 7 "Journal" CB (spOpen P K mg ER CB CD)) (c_same : Cal P w K mg base 10 "_law_same" (spSame K 10)) : Cal P w K mg base 11 "_law_fallen" (spFallen K CB CD) := by
  refine cal_of F hm b sc_fallen (fun vs H Q E h => ?_) (fun cdv A outer s H vs Q E hr h => ?_)
  · obtain ⟨b, d, dd, ln, ls, lf, lp, S, F, U, M, bk, line, vl, rfl, _⟩ := h
    rfl
  · obtain ⟨b, d, dd, ln, ls, lf, lp, S, F, U, M, bk, line, vl, rfl, hb, hd, hl, od, inv, eln, wln, hline, nb1, nb2, nb3, nb4, q⟩ := h
    have hu64 := pass_hu64 hr
    have hu65 : (A.deeper (PyProof.Rows.envOfC "_law_fallen" (defScope s_fallen) s.heap.objs.size f cdv)).units + 65 < cLine := by have := hr.un; omega
    have hu1 : (A.deeper (PyProof.Rows.envOfC "_law_fallen" (defScope s_fallen) s.heap.objs.size f cdv)).units + 1 < cLine := by have := hr.un; omega
    refine ⟨_, (pss_cons (ps_set (i := 4) sc_fallen.nd rfl (by first | exact Or.inl rfl | exact Or.inr rfl) (pe_c c_some hr (by decide) (by rfl) (pa_cons (pv 0) (pa_cons (pe_callB cLen (by rfl) T.len (by decide +kernel) (pa_cons (pe_dget hu1 (pv 2) pe_str (fun _ _ => rfl)) pa_nil)) pa_nil))))
    (pss_cons (ps_set (i := 5) sc_fallen.nd rfl (by first | exact Or.inl rfl | exact Or.inr rfl) (pe_c c_pick hr (by decide) (by rfl) (pa_cons (pv 0) (pa_cons (pe_lst (pa_cons (pv 4) (pa_cons (pe_callTy cTuple (by rfl) T.tuple (by decide +kernel) (pa_cons (pv 4) pa_nil)) pa_nil))) pa_nil))))
    (pss_cons (ps_set (i := 6) sc_fallen.nd rfl (by first | exact Or.inl rfl | exact Or.inr rfl) (pe_mtX m_Disk_fall hr (by decide) passL (pv 1) (pa_cons (pv 5) pa_nil)))
    (pss_cons (ps_expr (pe_c c_cut hr (by decide) (by rfl) (pa_cons (pv 2) (pa_cons (pv 4) pa_nil))))
    (pss_cons (ps_set (i := 7) sc_fallen.nd rfl (by first | exact Or.inl rfl | exact Or.inr rfl) (pe_c c_book hr (by decide) (by rfl) (pa_cons (pv 2) (pa_cons (pe_tup pa_nil) pa_nil))))
    (pss_cons (ps_set (i := 8) sc_fallen.nd rfl (by first | exact Or.inl rfl | exact Or.inr rfl) (pe_mk cJournal hr (by decide) (by rfl) (pa_cons (pv 1) (pa_cons (pe_c c_row hr (by decide) (by rfl) (pa_cons (pv 0) (pa_cons pe_int (pa_cons pe_int pa_nil)))) pa_nil))))
    (pss_one (ps_ret (pe_tup (pa_cons (pv 8) (pa_cons (pv 7) (pa_cons (pe_and (pe_cmpR op_isN1 (pv 6) pe_non (nomark _)) (pe_and (pe_cmpR (oInK K hu65) (pe_dget hu1 (pv 7) pe_str (fun _ _ => rfl)) (pv 3) rfl) (pe_one (pe_c c_same hr (by decide) (by rfl) (pa_cons (pe_fld (pv 8) rfl) (pa_cons (pe_dget hu1 (pv 7) pe_str (fun _ _ => rfl)) pa_nil)))))) pa_nil)))))))))))), ?_⟩
    try dsimp only [cxOf]
    obtain ⟨zs, ez, wz⟩ := hl.p
    have lz : zs.length = U.length := by rw [wz.len, List.length_map, List.length_map]
    have nbd : b ≠ d := fun z => by
      obtain ⟨_, _, _, e⟩ := hb
      obtain ⟨_, _, _, _, e2, _⟩ := hd
      rw [z, e2] at e; cases e
    have nbdd : b ≠ dd := fun z => by
      obtain ⟨_, _, _, e⟩ := hb
      have e2 := hl.d
      rw [← z, e] at e2; cases e2
    walk_at "y"
    refine x_kdgetK hl.d rfl ?_
    walk_at "y"
    refine x_lenl ez ?_
    rw [lz]
    walk_at "y"
    refine ⟨b, U.length, rfl, hb, od.lu, fun x1 H1 g1 hb1 rx => ?_⟩
    obtain ⟨pk, ns, rfl, ek, hns, nk⟩ := rx
    have nbk : b ≠ pk := fun z => box_ne hb (by rw [z]; exact nk)
    walk_at "y"
    refine x_tupl ek fun pt H2 e2 n2 h2 => ?_
    walk_at "y"
    refine x_mkl fun p3 H3 e3 n3 h3 => ?_
    have hb3 := hb1.go (e2.trans e3).go (S := []) (by simp)
    have nb3' : b ≠ p3 := fun z => box_ne (hb1.go e2.go (S := []) (by simp)) (by rw [z]; exact n3)
    walk_at "y"
    refine ⟨b, p3, _, rfl, hb3, h3, nb3', by simp, by simp, fun i x4 H4 hx4 g4 hb4 => ?_⟩
    have G4 : Go [b] H H4 := g1.trans ((e2.trans e3).go.trans g4)
    have ek4 : H4 pk = some (.lst (nums ns)) := g4.keep pk _ (by simp [Ne.symm nbk]) ((e2.trans e3) _ _ ek)
    have wgiven : Wt K H4 x4 (.list (numsD ns)) ∨ Wt K H4 x4 (.tuple (numsD ns)) := by
      match i with
      | 0 => cases hx4; exact .inl (.lst ek4 (wt_nums ns))
      | 1 => cases hx4; exact .inr (.tup (g4.tup _ _ (e3 _ _ h2)) (wt_nums ns))
      | _ + 2 => cases hx4
    have hd4 := hd.go od G4 (by simp [Ne.symm nbd])
    have hl4 := hl.go od G4 (by simp [Ne.symm nbdd, Ne.symm nb2, Ne.symm nb3, Ne.symm nb4])
    have lns := asc_len hns
    have lu := od.lu
    walk_at "y"
    obtain ⟨dx, v1, v2, v3, ed, _⟩ := id hd4
    refine x_kmeth ed rfl ?_
    walk_at "y"
    refine ⟨d, x4, ns, S.map slD, F.map slD, U.map entP, rfl, hd4, od.d, wgiven, by rw [List.length_map]; exact hns, by rw [List.length_map, od.lf]; have := od.m2; omega, by omega, fun H5 g5 h5 => ?_⟩
    rw [cut_map] at h5
    have od5 := od.cut ns
    have hd5 : DskAt K CD d (cutS U F ns) (cutS U F ns) [] H5 := h5
    have ndd : dd ∉ [d] := fun z => by
      have := hl4.d
      rw [List.mem_singleton.mp z, ed] at this; cases this
    have nl : ∀ l xs, H4 l = some (.lst xs) → l ∉ [d] := fun l xs e z => by
      rw [List.mem_singleton.mp z, ed] at e; cases e
    have hl5 : LDisk K dd ls lf lp S F U H5 := hl4.go od g5 ⟨ndd, by obtain ⟨_, e, _⟩ := hl4.s; exact nl _ _ e, by obtain ⟨_, e, _⟩ := hl4.f; exact nl _ _ e, by obtain ⟨_, e, _⟩ := hl4.p; exact nl _ _ e⟩
    have ek5 := g5.keep pk _ (nl _ _ ek4) ek4
    have hb5 := hb4.go g5 (by simp [nbd])
    have G5 : Go [b, d] H H5 := (G4.mono (by simp)).trans (g5.mono (by simp))
    walk_at "y"
    refine ⟨dd, ls, lf, lp, pk, ns, S, F, U, M, rfl, ek5, hl5, od, hns, fun ls' lf' lp' H6 g6 m1 m2 m3 h6 => ?_⟩
    have G6 : Go [b, d, dd] H H6 := (G5.mono (by simp)).trans (g6.mono (by simp))
    have hb6 := hb5.go g6 (by simp [nbdd])
    have nddd : d ∉ [dd] := fun z => ndd (by rw [List.mem_singleton.mp z]; simp)
    have hd6 := hd5.go od5 g6 nddd
    have fr5 : ∀ q, H5 q = none → H q = none := fun q hq => go_free G5 (fun s hs => by
      simp only [List.mem_cons, List.not_mem_nil, or_false] at hs
      rcases hs with rfl | rfl
      · exact box_ne hb5
      · obtain ⟨_, _, _, _, e, _⟩ := hd5; rw [e]; simp) hq
    walk_at "y"
    refine x_mkt (K := K) .nil fun u7 H7 e7 w7 => ?_
    obtain ⟨r0, hr0⟩ := rh_exists (cutS U F ns) M 0 (by rw [od5.ls]; omega) (by have := od.m1; omega)
    obtain ⟨r1, hr1⟩ := rh_exists (cutS U F ns) M M (by rw [od5.ls]; omega) (by have := od.m1; omega)
    obtain ⟨g, h, l, p, hpk, hpl, inv'⟩ := inv.fall (first := []) hns hr0 hr1
    have hd7 := hd6.go od5 e7.go (L := []) (by simp)
    have hb7 := hb6.go e7.go (S := []) (by simp)
    have hl7 := h6.go od5 e7.go (L := []) (by simp)
    walk_at "y"
    refine ⟨dd, ls', lf', lp', u7, [], _, _, [], M, r0, r1, rfl, hl7, od5, by simp, w7, PageOk.nil, hr0, hr1, ?_⟩
    rw [hpk]
    refine fun od' H8 e8 n8 ho8 => ?_
    have pok : PageOk p := hline p hpl
    have hd8 := hd7.go od5 e8.go (L := []) (by simp)
    have hb8 := hb7.go e8.go (S := []) (by simp)
    have hl8 := hl7.go od5 e8.go (L := []) (by simp)
    walk_at "y"
    refine ⟨b, 2, 3, rfl, hb8, by decide, by decide, by decide, fun x9 p9 H9 g9 hb9 w9 hp9 => ?_⟩
    have hd9 := hd8.go od5 g9 (by simp [Ne.symm nbd])
    have nl8 : ∀ q, H6 q = none ∨ (∃ xs, H8 q = some (.lst xs) ∧ H5 q = none) → q ≠ b := fun q hq z => by
      rcases hq with hq | ⟨_, _, hq⟩
      · exact box_ne hb6 (by rw [← z]; exact hq)
      · exact box_ne hb5 (by rw [← z]; exact hq)
    have nls' : b ≠ ls' := fun z => box_ne hb5 (by rw [z]; exact m1)
    have nlf' : b ≠ lf' := fun z => box_ne hb5 (by rw [z]; exact m2)
    have nlp' : b ≠ lp' := fun z => box_ne hb5 (by rw [z]; exact m3)
    have nod' : b ≠ od' := fun z => box_ne hb7 (by rw [z]; exact n8)
    have hl9 := hl8.go od5 g9 (by simp [Ne.symm nbdd, Ne.symm nls', Ne.symm nlf', Ne.symm nlp'])
    have ho9 : OwnAt K od' ⟨1 + lifeOf (cutS U F ns), g, h, l, p⟩ H9 := OwnAt.go (b := ⟨1 + lifeOf (cutS U F ns), g, h, l, p⟩) ho8 pok g9 (by simp [Ne.symm nod'])
    walk_at "y"
    refine fun xn dn hxn hdn hne => ?_
    have e10 : Ex H9 (upd (upd H9 dn (.own xn)) xn (.ins CB dn [])) := (Ex.new hdn).trans (Ex.new (by rw [upd_ne (Ne.symm hne)]; exact hxn))
    have hx10 : (upd (upd H9 dn (.own xn)) xn (.ins CB dn [])) xn = some (.ins CB dn []) := upd_same
    revert e10 hx10
    generalize upd (upd H9 dn (.own xn)) xn (.ins CB dn []) = H10
    intro e10 hx10
    have hd10 := hd9.go od5 e10.go (L := []) (by simp)
    have nxd : xn ≠ d := fun z => by
      obtain ⟨_, _, _, _, e, _⟩ := hd9
      rw [← z, hxn] at e; cases e
    refine ⟨xn, .ref d, x9, dn, rfl, hx10, .inr ⟨d, _, _, [], M, rfl, hd10, od5, nxd, .inr ⟨p9, r0, r1, w9.ex e10, hp9, hr0, hr1, fun H11 g11 hbo11 => ?_⟩⟩⟩
    rw [hpk] at hbo11 ⊢
    refine fun hd11 => ⟨rfl, ?_⟩
    have hbo11 : BookAt K CB xn d ⟨1 + lifeOf (cutS U F ns), g, h, l, p⟩ H11 := hbo11
    have hd11 : DskAt K CD d (cutS U F ns) (cutS U F ns) [] H11 := hd11
    have g911 : Go [d] H9 H11 := Go.fresh e10 hxn (g11.mono (by simp))
    have hl11 : LDisk K dd ls' lf' lp' (cutS U F ns) (cutS U F ns) [] H11 := by
      have nl9 : ∀ q xs, H9 q = some (.lst xs) → q ∉ [d] := fun q xs e z => by
        obtain ⟨_, _, _, _, e2, _⟩ := hd9
        rw [List.mem_singleton.mp z, e2] at e; cases e
      have nd9 : dd ∉ [d] := ndd
      exact hl9.go od5 g911 ⟨nd9, by obtain ⟨_, e, _⟩ := hl9.s; exact nl9 _ _ e, by obtain ⟨_, e, _⟩ := hl9.f; exact nl9 _ _ e, by obtain ⟨_, e, _⟩ := hl9.p; exact nl9 _ _ e⟩
    have nodd : od' ∉ [d] := fun z => by
      obtain ⟨_, e, _⟩ := ho9
      obtain ⟨_, _, _, _, e2, _⟩ := hd9
      rw [List.mem_singleton.mp z, e2] at e; cases e
    have ho11 : OwnAt K od' ⟨1 + lifeOf (cutS U F ns), g, h, l, p⟩ H11 := OwnAt.go (b := ⟨1 + lifeOf (cutS U F ns), g, h, l, p⟩) ho9 pok g911 nodd
    have hb11 : BoxAt b H11 := hb9.go g911 (by simp [nbd])
    have G9 : Go [b, d, dd] H H9 := G6.trans ((e7.trans e8).go.trans (g9.mono (by simp)))
    have G11 : Go [b, d, dd] H H11 := G9.trans (g911.mono (by simp))
    -- the line
    have nln : ln ∉ [b, d, dd] := fun z => by
      simp only [List.mem_cons, List.not_mem_nil, or_false] at z
      rcases z with z | z | z
      · exact nb1 z.symm
      · obtain ⟨_, _, _, _, e2, _⟩ := hd; rw [z, e2] at eln; cases eln
      · have e2 := hl.d; rw [z, e2] at eln; cases eln
    have tline : tupOnlyL (line.map pageD) = true := tupOnlyL_iff.mpr fun x hx => by
      obtain ⟨q, hq, rfl⟩ := List.mem_map.mp hx
      exact (lay_page (hline q hq)).to
    have eln11 := G11.keep ln _ nln eln
    have wln11 := wln.go G11 tline
    obtain ⟨vo, eo11, wo11⟩ := ho11
    obtain ⟨dxb, vb, eb11, wb11⟩ := hbo11
    walk_at "y"
    refine x_kdgetK eo11 rfl ?_
    walk_at "y"
    have hsh := line_shaped hline
    refine ⟨pageD p, line.map pageD, wo11.dp (lay_page pok).ly, (Wt.lst eln11 wln11).dp (SeqAt.canLay_of_shaped hsh), (lay_page pok).shaped, hsh, ?_⟩
    rw [mem_eqv (List.mem_map.mpr ⟨p, hpl, rfl⟩) (lay_page pok).ly]
    walk_at "y"
    refine x_kfld eb11 B.ins.cl B.a_page rfl ?_
    walk_at "y"
    refine x_kdgetK eo11 rfl ?_
    walk_at "y"
    refine ⟨vb, vo, pageD p, rfl, wb11, wo11, (sm_page pok).mono (by decide), fun H12 e12 => ?_⟩
    walk_at "y"
    refine x_mkr fun p13 H13 e13 n13 h13 => ?_
    have E13 := e12.trans e13
    have fr9 : ∀ q, H9 q = none → H q = none := fun q hq => go_free G9 (fun s hs => by
      simp only [List.mem_cons, List.not_mem_nil, or_false] at hs
      rcases hs with rfl | rfl | rfl
      · exact box_ne hb9
      · obtain ⟨_, _, _, _, e, _⟩ := hd9; rw [e]; simp
      · rw [hl9.d]; simp) hq
    have fr6 : ∀ q, H6 q = none → H q = none := fun q hq => go_free G6 (fun s hs => by
      simp only [List.mem_cons, List.not_mem_nil, or_false] at hs
      rcases hs with rfl | rfl | rfl
      · exact box_ne hb6
      · obtain ⟨_, _, _, _, e, _⟩ := hd6; rw [e]; simp
      · rw [h6.d]; simp) hq
    refine q p13 H13 xn od' ls' lf' lp' (cutS U F ns) ⟨1 + lifeOf (cutS U F ns), g, h, l, p⟩ (G11.trans E13.go) (hb11.go E13.go (S := []) (by simp)) h13 (fr9 _ hxn) (fr6 _ (e7.free n8)) (fr5 _ m1) (fr5 _ m2) (fr5 _ m3) od5 pok inv' ⟨hd11.go od5 E13.go (L := []) (by simp), ?_, hl11.go od5 E13.go (L := []) (by simp), ?_⟩
    · exact BookAt.go (b := ⟨1 + lifeOf (cutS U F ns), g, h, l, p⟩) ⟨dxb, vb, eb11, wb11⟩ pok E13.go (L := []) (by simp)
    · exact OwnAt.go (b := ⟨1 + lifeOf (cutS U F ns), g, h, l, p⟩) ⟨vo, eo11, wo11⟩ pok E13.go (L := []) (by simp)
end
end Y
/-! part C12 -/
/-! The law's state. -/
namespace Y
open PySem LamX L2
local macro_rules | `(tactic| walk_at "y1") => `(tactic| (first
  | (with_reducible refine x_seq ?_) | (with_reducible refine x_asg ?_) | (with_reducible refine x_name ?_) | (with_reducible refine x_drop ?_) | (with_reducible refine x_ret ?_) | (with_reducible refine x_retN ?_)
  | (with_reducible refine x_next ?_) | (with_reducible refine x_brk ?_) | (with_reducible refine x_ifS ?_)
  | (with_reducible refine x_c ?_) | (with_reducible refine x_op ?_) | (with_reducible refine x_un ?_) | (with_reducible refine x_cb ?_) | (with_reducible refine x_cons ?_) | (with_reducible refine x_nil ?_)
  | (with_reducible refine x_call ?_) | (with_reducible refine x_tup ?_) | (with_reducible refine x_lst ?_) | (with_reducible refine x_sl ?_) | (with_reducible refine x_nopart ?_) | (with_reducible refine x_part ?_)
  | (with_reducible refine x_andV ?_) | (with_reducible refine x_orV ?_) | (with_reducible refine x_notV ?_) | (with_reducible refine x_if ?_) | (with_reducible refine x_test ?_) | (with_reducible refine x_tb ?_)
  | (with_reducible refine x_and ?_) | (with_reducible refine x_or ?_) | (with_reducible refine x_not ?_) | (with_reducible refine x_chain ?_) | (with_reducible refine x_exbl ?_) | (with_reducible refine x_exint ?_)
  | (with_reducible refine x_fld ?_) | (with_reducible refine x_sfld ?_) | (with_reducible refine x_par ?_) | (with_reducible refine x_par3 ?_) | (with_reducible refine x_dget ?_) | (with_reducible refine x_dput ?_)
  | (with_reducible refine x_bm ?_) | (with_reducible refine x_bm0 ?_) | (with_reducible refine x_pair ?_) | (with_reducible refine x_tri ?_) | (with_reducible refine x_int ?_) | (with_reducible refine x_intb ?_) | (with_reducible refine x_abs ?_) | (with_reducible refine x_isN ?_) | (with_reducible refine x_notN ?_) | (with_reducible refine x_meth ?_) | (with_reducible refine x_make ?_)
  | (with_reducible refine x_ite1 ?_) | (with_reducible refine x_ite0 ?_)
  | (with_reducible refine x_addi ?_) | (with_reducible refine x_neg ?_) | (with_reducible refine x_i0 ?_) | (with_reducible refine x_eqi ?_) | (with_reducible refine x_eqs ?_) | (with_reducible refine x_eqb ?_) | (with_reducible refine x_nei ?_) | (with_reducible refine x_lti ?_)
  | (with_reducible refine x_forL ?_) | (with_reducible refine x_forT ?_) | (with_reducible refine x_forR ?_) | (with_reducible refine x_forR2 ?_) | (with_reducible refine x_lcL ?_) | (with_reducible refine x_lcT ?_) | (with_reducible refine x_lcR ?_)
  | (with_reducible refine x_yes ?_) | (with_reducible refine x_pcons ?_) | (with_reducible refine x_pnil ?_) | (with_reducible refine x_gcons ?_) | (with_reducible refine x_gnil ?_) | (with_reducible refine x_gattr ?_) | (with_reducible refine x_raise ?_) | (with_reducible refine x_gsub ?_) | (with_reducible refine x_fldaug ?_) | (with_reducible refine x_radd ?_) | (with_reducible refine x_ipi ?_) | ((with_reducible refine x_aug (x := ?vv) ?hh ?qq); (case hh => exact rfl))
  | ((with_reducible refine x_iteA ?hc ?q); (case hc => exact rfl)) | ((with_reducible refine x_iteB ?hc ?q); (case hc => exact rfl))
  | ((with_reducible refine x_var (v := ?vv) ?hh ?qq); (case hh => exact rfl))
  | ((with_reducible refine r_isInt (d := ?dd) ?hh ?qq); (case hh => assumption)) | ((with_reducible refine r_isBool (d := ?dd) ?hh ?qq); (case hh => assumption)) | ((with_reducible refine r_isTup (d := ?dd) ?hh ?qq); (case hh => assumption))
  | ((with_reducible refine r_isStr (d := ?dd) ?hh ?qq); (case hh => assumption)) | ((with_reducible refine r_isLst (d := ?dd) ?hh ?qq); (case hh => assumption))))
local macro_rules | `(tactic| walk_at "y") => `(tactic| (repeat (walk_at "y1")))
theorem goT_split {S : List Addr} {H H' : Hp} (g : GoT S H H') : ∃ H1, Go S H H1 ∧ ExtN H1 H' ∧ ∀ a, H1 a = H' a ∨ ∃ ps, H a = some (.tbl ps) := by
  refine ⟨fun a => match H a with
    | some (.tbl ps) => some (.tbl ps)
    | _ => H' a, ⟨fun a o n h => ?_, fun a xs h => ?_⟩, fun a o h t => ?_, fun a => ?_⟩
  · show (match H a with
      | some (.tbl ps) => some (HO.tbl ps)
      | _ => H' a) = _
    split
    · rename_i q; rw [q] at h; exact h
    · rename_i q
      exact g.keep a o n h (fun ps z => q ps (by rw [h, z]))
  · show (match H a with
      | some (.tbl ps) => some (HO.tbl ps)
      | _ => H' a) = _
    rw [h]
    exact g.tup a xs h
  · have h : (match H a with
      | some (.tbl ps) => some (HO.tbl ps)
      | _ => H' a) = some o := h
    split at h
    · cases h; exact absurd rfl (t _)
    · exact h
  · show (match H a with
      | some (.tbl ps) => some (HO.tbl ps)
      | _ => H' a) = _ ∨ _
    split
    · rename_i ps q; exact .inr ⟨ps, q⟩
    · exact .inl rfl
/-! ### addresses apart -/
theorem nin {L : List Addr} (h : L.Nodup) (i : Nat) {x : Addr} (hx : L[i]? = some x) (js : List Nat) {S : List Addr} (hS : S = js.filterMap fun j => L[j]?) (hd : i ∉ js) : x ∉ S := by
  intro m
  rw [hS] at m
  obtain ⟨j, hj, e⟩ := List.mem_filterMap.mp m
  obtain ⟨hi, e1⟩ := List.getElem?_eq_some_iff.mp hx
  obtain ⟨hj', e2⟩ := List.getElem?_eq_some_iff.mp e
  have hp := List.pairwise_iff_getElem.mp h
  rcases Nat.lt_trichotomy i j with c | c | c
  · exact hp i j hi hj' c (e1.trans e2.symm)
  · exact hd (c ▸ hj)
  · exact hp j i hj' hi c (e2.trans e1.symm)
theorem nodup_set {L : List Addr} (h : L.Nodup) {y : Addr} (hy : y ∉ L) : ∀ k : Nat, (L.set k y).Nodup := by
  intro k
  induction L generalizing k with
  | nil => exact h
  | cons a r ih =>
    have h' := List.nodup_cons.mp h
    simp only [List.mem_cons, not_or] at hy
    cases k with
    | zero =>
      rw [List.set_cons_zero]
      exact List.nodup_cons.mpr ⟨hy.2, h'.2⟩
    | succ k =>
      rw [List.set_cons_succ]
      refine List.nodup_cons.mpr ⟨fun m => ?_, ih h'.2 hy.2 k⟩
      rcases List.mem_or_eq_of_mem_set m with z | z
      · exact h'.1 z
      · exact hy.1 z.symm
section
variable {P : Program} {w : World} {K : PySem.W.Frag} {mg : Str → Option Value} {base : Heap}
/-- what stands at z0: the script's own list, or (where the script is the module's own) a table -/
def ScZ (z0 : Addr) (o0 : Option HO) (H : Hp) : Prop := (∃ o, o0 = some o ∧ H z0 = some o) ∨ (o0 = none ∧ ∃ ps, H z0 = some (.tbl ps))
def ScG (Pt z0 : Addr) (o0 : Option HO) : Prop := (∃ o, o0 = some o ∧ ((∃ xs, o = .lst xs) ∨ ∃ b u, o = .frz b u)) ∨ (o0 = none ∧ z0 = Pt)
theorem ScZ.go {z0 : Addr} {o0 : Option HO} {H H' : Hp} {S : List Addr} (h : ScZ z0 o0 H) (g : Go S H H') (n : z0 ∉ S) : ScZ z0 o0 H' := by
  rcases h with ⟨o, e, h⟩ | ⟨e, ps, h⟩
  · exact .inl ⟨o, e, g.keep _ _ n h⟩
  · exact .inr ⟨e, ps, g.keep _ _ n h⟩
theorem ScZ.ex {z0 : Addr} {o0 : Option HO} {H H' : Hp} (h : ScZ z0 o0 H) (e : Ex H H') : ScZ z0 o0 H' := h.go e.go (S := []) (by simp)
theorem ScZ.exN {Pt z0 : Addr} {o0 : Option HO} {H H' : Hp} (h : ScZ z0 o0 H) (g : ScG Pt z0 o0) (e : ExtN H H') (t : Tabs (tabT Pt) H') : ScZ z0 o0 H' := by
  rcases g with ⟨o, e0, k⟩ | ⟨e0, rfl⟩
  · rcases h with ⟨o', e', h⟩ | ⟨e', _⟩
    · rw [e0] at e'
      cases e'
      refine .inl ⟨o, e0, e _ _ h fun ps z => ?_⟩
      rcases k with ⟨_, k⟩ | ⟨_, _, k⟩ <;> rw [k] at z <;> cases z
    · rw [e0] at e'; cases e'
  · obtain ⟨ps, h1, _⟩ := t _ (show (z0, _) ∈ tabT z0 from List.mem_cons_self)
    exact .inr ⟨e0, ps, h1⟩
theorem ScZ.ne {z0 : Addr} {o0 : Option HO} {H : Hp} (h : ScZ z0 o0 H) : H z0 ≠ none := by
  rcases h with ⟨o, _, h⟩ | ⟨_, ps, h⟩ <;> rw [h] <;> simp
theorem ScZ.dK {Pt z0 : Addr} {o0 : Option HO} {H : Hp} (h : ScZ z0 o0 H) (g : ScG Pt z0 o0) {kvs : List (L2.Key × V)} (z : H z0 = some (.dK kvs)) : False := by
  rcases h with ⟨o, e, h⟩ | ⟨_, ps, h⟩
  · rw [h] at z
    cases z
    rcases g with ⟨o, e0, k⟩ | ⟨e0, _⟩
    · rw [e0] at e
      cases e
      rcases k with ⟨_, k⟩ | ⟨_, _, k⟩ <;> cases k
    · rw [e0] at e; cases e
  · rw [h] at z; cases z
theorem ScZ.ins {Pt z0 : Addr} {o0 : Option HO} {H : Hp} (h : ScZ z0 o0 H) (g : ScG Pt z0 o0) {C dx : Addr} {fs : List (Str × V)} (z : H z0 = some (.ins C dx fs)) : False := by
  rcases h with ⟨o, e, h⟩ | ⟨_, ps, h⟩
  · rw [h] at z
    cases z
    rcases g with ⟨o, e0, k⟩ | ⟨e0, _⟩
    · rw [e0] at e
      cases e
      rcases k with ⟨_, k⟩ | ⟨_, _, k⟩ <;> cases k
    · rw [e0] at e; cases e
  · rw [h] at z; cases z
/-- the law's state: addresses l0 (script), b, d, a, dd, od, ls, lf, lp, ln -/
structure LS (K : PySem.W.Frag) (CB CD Pt l0 : Addr) (o0 : Option HO) (b d a dd od ls lf lp ln : Addr) (S F : List Slot) (U : List (Nat × Entry)) (M : Nat) (bk : Bk) (line : List Page) (H : Hp) : Prop where
  sc : ScZ l0 o0 H
  sg : ScG Pt l0 o0
  bx : BoxAt b H
  dk : DskAt K CD d S F U H
  bo : BookAt K CB a d bk H
  ld : LDisk K dd ls lf lp S F U H
  ow : OwnAt K od bk H
  ok : DskOk S F U M
  pg : PageOk bk.page
  iv : Inv2 S F U M bk line
  hl : ∃ vl, H ln = some (.lst vl) ∧ WtL K H vl (line.map pageD)
  lo : ∀ p ∈ line, PageOk p
  la : ∃ L0, line = L0 ++ [bk.page]
  tb : Tabs (tabT Pt) H
  nd : [l0, b, d, a, dd, od, ls, lf, lp, ln].Nodup
  uu : U.length ≤ bk.last + 1
section
variable {CB CD Pt l0 b d a dd od ls lf lp ln : Addr} {o0 : Option HO} {S F : List Slot} {U : List (Nat × Entry)} {M : Nat} {bk : Bk} {line : List Page} {H H' : Hp}
theorem line_to (h : ∀ p ∈ line, PageOk p) : tupOnlyL (line.map pageD) = true := tupOnlyL_iff.mpr fun x hx => by
  obtain ⟨q, hq, rfl⟩ := List.mem_map.mp hx
  exact (lay_page (h q hq)).to
theorem LS.exN (r : LS K CB CD Pt l0 o0 b d a dd od ls lf lp ln S F U M bk line H) (e : ExtN H H') (t : Tabs (tabT Pt) H') : LS K CB CD Pt l0 o0 b d a dd od ls lf lp ln S F U M bk line H' := by
  obtain ⟨vl, el, wl⟩ := r.hl
  exact ⟨r.sc.exN r.sg e t, r.sg, r.bx.exN e, r.dk.exN e, r.bo.exN e, r.ld.exN e, r.ow.exN e, r.ok, r.pg, r.iv, ⟨vl, e _ _ el (fun _ z => by cases z), wl.exN e⟩, r.lo, r.la, t, r.nd, r.uu⟩
theorem LS.ex (r : LS K CB CD Pt l0 o0 b d a dd od ls lf lp ln S F U M bk line H) (e : Ex H H') : LS K CB CD Pt l0 o0 b d a dd od ls lf lp ln S F U M bk line H' := r.exN (ExtN.of e) (r.tb.ext e)
theorem LS.box (r : LS K CB CD Pt l0 o0 b d a dd od ls lf lp ln S F U M bk line H) (g : Go [b] H H') (hb : BoxAt b H') : LS K CB CD Pt l0 o0 b d a dd od ls lf lp ln S F U M bk line H' := by
  obtain ⟨vl, el, wl⟩ := r.hl
  have n : ∀ (i : Nat) (x : Addr), [l0, b, d, a, dd, od, ls, lf, lp, ln][i]? = some x → i ≠ 1 → x ∉ [b] := fun i x hx hi => nin r.nd i hx [1] rfl (by simpa using hi)
  obtain ⟨i, j, k, eb⟩ := r.bx
  exact ⟨r.sc.go g (n 0 _ rfl (by decide)), r.sg, hb, r.dk.go r.ok g (n 2 _ rfl (by decide)), r.bo.go r.pg g (n 3 _ rfl (by decide)), r.ld.go r.ok g ⟨n 4 _ rfl (by decide), n 6 _ rfl (by decide), n 7 _ rfl (by decide), n 8 _ rfl (by decide)⟩, r.ow.go r.pg g (n 5 _ rfl (by decide)), r.ok, r.pg, r.iv,
    ⟨vl, g.keep _ _ (n 9 _ rfl (by decide)) el, wl.go g (line_to r.lo)⟩, r.lo, r.la, Tabs.go r.tb g fun s hs => by rw [List.mem_singleton.mp hs]; exact .inl ⟨_, eb⟩, r.nd, r.uu⟩
theorem LS.boxT (r : LS K CB CD Pt l0 o0 b d a dd od ls lf lp ln S F U M bk line H) (g : GoT [b] H H') (t : Tabs (tabT Pt) H') (hb : BoxAt b H') : LS K CB CD Pt l0 o0 b d a dd od ls lf lp ln S F U M bk line H' := by
  obtain ⟨H1, g1, e1, s1⟩ := goT_split g
  obtain ⟨i, j, k, eb⟩ := hb
  obtain ⟨i0, j0, k0, eb0⟩ := r.bx
  have hb1 : BoxAt b H1 := by
    rcases s1 b with z | ⟨ps, z⟩
    · exact ⟨i, j, k, z.trans eb⟩
    · rw [eb0] at z; cases z
  exact (r.box g1 hb1).exN e1 t
/-- every address is known -/
theorem LS.there (r : LS K CB CD Pt l0 o0 b d a dd od ls lf lp ln S F U M bk line H) : ∀ x ∈ [l0, b, d, a, dd, od, ls, lf, lp, ln], H x ≠ none := fun x hx => by
  obtain ⟨_, _, _, eb⟩ := r.bx
  obtain ⟨_, _, _, _, ed, _⟩ := r.dk
  obtain ⟨_, _, ea, _⟩ := r.bo
  obtain ⟨_, eo, _⟩ := r.ow
  obtain ⟨_, es, _⟩ := r.ld.s
  obtain ⟨_, ef, _⟩ := r.ld.f
  obtain ⟨_, ep, _⟩ := r.ld.p
  obtain ⟨_, el, _⟩ := r.hl
  simp only [List.mem_cons, List.not_mem_nil, or_false] at hx
  rcases hx with rfl | rfl | rfl | rfl | rfl | rfl | rfl | rfl | rfl | rfl
  · exact r.sc.ne
  · rw [eb]; simp
  · rw [ed]; simp
  · rw [ea]; simp
  · rw [r.ld.d]; simp
  · rw [eo]; simp
  · rw [es]; simp
  · rw [ef]; simp
  · rw [ep]; simp
  · rw [el]; simp
theorem LS.fresh (r : LS K CB CD Pt l0 o0 b d a dd od ls lf lp ln S F U M bk line H) {x : Addr} (h : H x = none) : x ∉ [l0, b, d, a, dd, od, ls, lf, lp, ln] := fun m => r.there x m h
end
end
end Y
/-! part C13 -/
/-! The law's state, step by step. -/
namespace Y
open PySem LamX L2
theorem addB_page (M : Nat) (b : Bk) (p : Page) : (addB M b p).page = over b.page p := by
  unfold addB
  split <;> rfl
theorem addB_half {M : Nat} {b : Bk} {p : Page} (h : b.half ≤ 1) : (addB M b p).half ≤ 1 := by
  unfold addB
  split
  · exact h
  · show 1 - b.half ≤ 1
    omega
theorem addB_last {M : Nat} {b : Bk} {p : Page} (h : 2 ≤ M) : (addB M b p).last < M := by
  unfold addB
  split
  · assumption
  · show 0 < M
    omega
theorem addN_lt {M : Nat} {b : Bk} (hM : 2 ≤ M) (h : b.half ≤ 1) : addN M b < 2 * M := by
  unfold addN
  split
  · exact place_lt h (by assumption)
  · exact place_lt (by omega) (by omega)
theorem addE_ok {M : Nat} {b : Bk} {p : Page} (op : PageOk b.page) (hp : PageOk p) : EntOk (addE M b p) := by
  unfold addE
  split
  · exact hp
  · exact op.over hp
theorem DskOk.add {S F : List Slot} {U : List (Nat × Entry)} {M : Nat} {b : Bk} {p : Page} (h : DskOk S F U M) (op : PageOk b.page) (hp : PageOk p) (hh : b.half ≤ 1) (hl : b.last < M) (hu : U.length ≤ b.last + 1) :
    DskOk (S.set (addN M b) (some (addE M b p))) (if b.last + 1 < M then F else S) (if b.last + 1 < M then U ++ [(addN M b, addE M b p)] else [(addN M b, addE M b p)]) M := by
  have hs : ∀ s ∈ S.set (addN M b) (some (addE M b p)), SlotOk s := fun s hs => by
    rcases List.mem_or_eq_of_mem_set hs with z | z
    · exact h.s s z
    · rw [z]; intro e he; cases he; exact addE_ok op hp
  have m2 := h.m2
  refine ⟨hs, ?_, ?_, by rw [List.length_set]; exact h.ls, ?_, h.m1, h.m2, ?_⟩
  · split
    · exact h.f
    · exact h.s
  · intro q hq
    split at hq
    · rcases List.mem_append.mp hq with z | z
      · exact h.u q z
      · rw [List.mem_singleton.mp z]; exact ⟨addE_ok op hp, addN_lt h.m1 hh⟩
    · rw [List.mem_singleton.mp hq]; exact ⟨addE_ok op hp, addN_lt h.m1 hh⟩
  · split
    · exact h.lf
    · exact h.ls
  · split
    · simp; omega
    · simp
theorem uu_add {U : List (Nat × Entry)} {M : Nat} {b : Bk} {p : Page} (hu : U.length ≤ b.last + 1) : (if b.last + 1 < M then U ++ [(addN M b, addE M b p)] else [(addN M b, addE M b p)]).length ≤ (addB M b p).last + 1 := by
  unfold addB
  split
  · simp; omega
  · simp
theorem nodup_two {l0 b d a dd od ls lf lp ln lf' lp' : Addr} (h : [l0, b, d, a, dd, od, ls, lf, lp, ln].Nodup) (f1 : lf' = lf ∨ lf' ∉ [l0, b, d, a, dd, od, ls, lf, lp, ln]) (f2 : lp' = lp ∨ lp' ∉ [l0, b, d, a, dd, od, ls, lf, lp, ln]) (n : lf' ≠ lp') : [l0, b, d, a, dd, od, ls, lf', lp', ln].Nodup := by
  have h1 : [l0, b, d, a, dd, od, ls, lf', lp, ln].Nodup := by
    rcases f1 with rfl | f1
    · exact h
    · exact nodup_set h f1 7
  rcases f2 with rfl | f2
  · exact h1
  · refine nodup_set h1 (y := lp') (fun m => ?_) 8
    simp only [List.mem_cons, List.not_mem_nil, or_false, not_or] at m f2
    rcases m with z | z | z | z | z | z | z | z | z | z
    · exact f2.1 z
    · exact f2.2.1 z
    · exact f2.2.2.1 z
    · exact f2.2.2.2.1 z
    · exact f2.2.2.2.2.1 z
    · exact f2.2.2.2.2.2.1 z
    · exact f2.2.2.2.2.2.2.1 z
    · exact n z.symm
    · exact f2.2.2.2.2.2.2.2.2.1 z
    · exact f2.2.2.2.2.2.2.2.2.2 z
section
variable {K : PySem.W.Frag} {CB CD Pt l0 b d a dd od ls lf lp ln : Addr} {o0 : Option HO} {S F : List Slot} {U : List (Nat × Entry)} {M : Nat} {bk : Bk} {line : List Page} {H H' H1 : Hp}
theorem LS.last_lt (r : LS K CB CD Pt l0 o0 b d a dd od ls lf lp ln S F U M bk line H) : bk.last < M := by
  obtain ⟨_, _, q, _⟩ := r.iv.good.rd
  exact q.lt
theorem nodup_re {L : List Addr} (h : L.Nodup) : ∀ (f : List Nat), f.Nodup → (f.filterMap fun j => L[j]?).Nodup
  | [], _ => by simp
  | j :: f, hf => by
    obtain ⟨h1, h2⟩ := List.nodup_cons.mp hf
    rw [List.filterMap_cons]
    split
    · exact nodup_re h f h2
    · rename_i x hx
      exact List.nodup_cons.mpr ⟨nin h j hx f rfl h1, nodup_re h f h2⟩
/-- behind the program's own step at a and d -/
structure LMid (K : PySem.W.Frag) (Pt l0 : Addr) (o0 : Option HO) (b dd od ls lf lp ln : Addr) (S F : List Slot) (U : List (Nat × Entry)) (bk : Bk) (line : List Page) (H : Hp) : Prop where
  sc : ScZ l0 o0 H
  bx : BoxAt b H
  ld : LDisk K dd ls lf lp S F U H
  ow : OwnAt K od bk H
  hl : ∃ vl, H ln = some (.lst vl) ∧ WtL K H vl (line.map pageD)
  tb : Tabs (tabT Pt) H
theorem LS.prog (r : LS K CB CD Pt l0 o0 b d a dd od ls lf lp ln S F U M bk line H) (g : Go [a, d] H H') : LMid K Pt l0 o0 b dd od ls lf lp ln S F U bk line H' := by
  obtain ⟨vl, el, wl⟩ := r.hl
  have n : ∀ (i : Nat) (x : Addr), [l0, b, d, a, dd, od, ls, lf, lp, ln][i]? = some x → i ∉ [3, 2] → x ∉ [a, d] := fun i x hx hi => nin r.nd i hx [3, 2] rfl hi
  obtain ⟨_, _, _, _, ed, _⟩ := r.dk
  obtain ⟨_, _, ea, _⟩ := r.bo
  refine ⟨r.sc.go g (n 0 _ rfl (by decide)), r.bx.go g (n 1 _ rfl (by decide)), r.ld.go r.ok g ⟨n 4 _ rfl (by decide), n 6 _ rfl (by decide), n 7 _ rfl (by decide), n 8 _ rfl (by decide)⟩, r.ow.go r.pg g (n 5 _ rfl (by decide)), ⟨vl, g.keep _ _ (n 9 _ rfl (by decide)) el, wl.go g (line_to r.lo)⟩, Tabs.go r.tb g fun s hs => ?_⟩
  simp only [List.mem_cons, List.not_mem_nil, or_false] at hs
  rcases hs with rfl | rfl
  · exact .inr (.inl ⟨_, _, _, ea⟩)
  · exact .inr (.inl ⟨_, _, _, ed⟩)
theorem hl_cut {H : Hp} {vl : List V} {L0 : List Page} {p : Page} (w : WtL K H vl ((L0 ++ [p]).map pageD)) : WtL K H (cutV vl (some (-1)) none) ([p].map pageD) := by
  have h := w.cut (some (-1)) none
  have e : cutD ((L0 ++ [p]).map pageD) (some (-1)) none = [p].map pageD := by
    unfold cutD
    have e1 : HT.sIx ((L0 ++ [p]).map pageD).length 0 (some (-1)) = L0.length := by
      unfold HT.sIx
      simp
      omega
    rw [e1, HT.sIx_none, List.map_append, List.drop_append_of_le_length (by simp), List.drop_of_length_le (by simp)]
    simp
  rw [e] at h
  exact h
theorem there_go {S : List Addr} {L : List Addr} {H H' : Hp} (g : Go S H H') (h : ∀ x ∈ L, H x ≠ none) (h' : ∀ x ∈ L, x ∈ S → H' x ≠ none) : ∀ x ∈ L, H' x ≠ none := fun x hx => by
  by_cases m : x ∈ S
  · exact h' x hx m
  · cases e : H x with
    | none => exact absurd e (h x hx)
    | some o => rw [g.keep x o m e]; simp
/-- behind a row -/
theorem LS.added {p : Page} {lf' lp' : Addr} {H4 H5 : Hp} {vl : List V} {vp : V} (r : LS K CB CD Pt l0 o0 b d a dd od ls lf lp ln S F U M bk line H) (hp : PageOk p) (g : Go [a, d] H H1)
    (hbo : BookAt K CB a d (addB M bk p) H1) (hd : DskAt K CD d (S.set (addN M bk) (some (addE M bk p))) (if bk.last + 1 < M then F else S) (if bk.last + 1 < M then U ++ [(addN M bk, addE M bk p)] else [(addN M bk, addE M bk p)]) H1)
    (g4 : Go [dd, od, ls, lp] H1 H4) (f1 : lf' = lf ∨ H1 lf' = none) (f2 : lp' = lp ∨ H1 lp' = none) (ho : OwnAt K od (addB M bk p) H4)
    (hl : LDisk K dd ls lf' lp' (S.set (addN M bk) (some (addE M bk p))) (if bk.last + 1 < M then F else S) (if bk.last + 1 < M then U ++ [(addN M bk, addE M bk p)] else [(addN M bk, addE M bk p)]) H4)
    (g5 : Go [ln] H4 H5) (e4 : H4 ln = some (.lst vl)) (w4 : WtL K H4 vl (line.map pageD)) (wp : Wt K H4 vp (pageD (addB M bk p).page)) (h5 : H5 ln = some (.lst (vl ++ [vp]))) :
    LS K CB CD Pt l0 o0 b d a dd od ls lf' lp' ln (S.set (addN M bk) (some (addE M bk p))) (if bk.last + 1 < M then F else S) (if bk.last + 1 < M then U ++ [(addN M bk, addE M bk p)] else [(addN M bk, addE M bk p)]) M (addB M bk p) (line ++ [over bk.page p]) H5 := by
  have m := r.prog g
  have ok' := r.ok.add r.pg hp r.iv.hh r.last_lt r.uu
  have pg' : PageOk (addB M bk p).page := by rw [addB_page]; exact r.pg.over hp
  have th1 : ∀ x ∈ [l0, b, d, a, dd, od, ls, lf, lp, ln], H1 x ≠ none := there_go g r.there fun x _ hx => by
    simp only [List.mem_cons, List.not_mem_nil, or_false] at hx
    rcases hx with rfl | rfl
    · obtain ⟨_, _, e, _⟩ := hbo; rw [e]; simp
    · obtain ⟨_, _, _, _, e, _⟩ := hd; rw [e]; simp
  have f1' : lf' = lf ∨ lf' ∉ [l0, b, d, a, dd, od, ls, lf, lp, ln] := f1.imp id fun z => fun mm => th1 _ mm z
  have f2' : lp' = lp ∨ lp' ∉ [l0, b, d, a, dd, od, ls, lf, lp, ln] := f2.imp id fun z => fun mm => th1 _ mm z
  have nd' := nodup_two r.nd f1' f2' hl.n3
  have n : ∀ (i : Nat) (x : Addr), [l0, b, d, a, dd, od, ls, lf, lp, ln][i]? = some x → i ∉ [4, 5, 6, 8] → x ∉ [dd, od, ls, lp] := fun i x hx hi => nin r.nd i hx [4, 5, 6, 8] rfl hi
  have n' : ∀ (i : Nat) (x : Addr), [l0, b, d, a, dd, od, ls, lf', lp', ln][i]? = some x → i ∉ [9] → x ∉ [ln] := fun i x hx hi => nin nd' i hx [9] rfl hi
  obtain ⟨zs, ez, _⟩ := m.ld.p
  obtain ⟨xs, ex, _⟩ := m.ld.s
  obtain ⟨vo, eo, _⟩ := m.ow
  have tb4 : Tabs (tabT Pt) H4 := Tabs.go m.tb g4 fun s hs => by
    simp only [List.mem_cons, List.not_mem_nil, or_false] at hs
    rcases hs with rfl | rfl | rfl | rfl
    · exact .inr (.inr ⟨_, m.ld.d⟩)
    · exact .inr (.inr ⟨_, eo⟩)
    · exact .inl ⟨_, ex⟩
    · exact .inl ⟨_, ez⟩
  have toP : tupOnly (pageD (addB M bk p).page) = true := (lay_page pg').to
  refine ⟨(m.sc.go g4 (n 0 _ rfl (by decide))).go g5 (n' 0 _ rfl (by decide)), r.sg, (m.bx.go g4 (n 1 _ rfl (by decide))).go g5 (n' 1 _ rfl (by decide)), (hd.go ok' g4 (n 2 _ rfl (by decide))).go ok' g5 (n' 2 _ rfl (by decide)),
    (hbo.go pg' g4 (n 3 _ rfl (by decide))).go pg' g5 (n' 3 _ rfl (by decide)), hl.go ok' g5 ⟨n' 4 _ rfl (by decide), n' 6 _ rfl (by decide), n' 7 _ rfl (by decide), n' 8 _ rfl (by decide)⟩, ho.go pg' g5 (n' 5 _ rfl (by decide)), ok', pg', r.iv.add, ⟨_, h5, ?_⟩, fun q hq => ?_, ⟨line, by rw [addB_page]⟩,
    Tabs.go tb4 g5 fun s hs => by rw [List.mem_singleton.mp hs]; exact .inl ⟨_, e4⟩, nd', uu_add r.uu⟩
  · rw [List.map_append]
    refine (w4.go g5 (line_to r.lo)).append (.cons ?_ .nil)
    rw [addB_page] at wp toP
    exact wp.go g5 toP
  · rcases List.mem_append.mp hq with z | z
    · exact r.lo q z
    · rw [List.mem_singleton.mp z]; exact r.pg.over hp
/-- behind a flush -/
theorem LS.flushed {lf' lp' ln' : Addr} {H4 H5 : Hp} {vl : List V} (r : LS K CB CD Pt l0 o0 b d a dd od ls lf lp ln S F U M bk line H) (g : Go [d] H H1) (hd : DskAt K CD d S S [] H1)
    (g4 : Go [dd] H1 H4) (f1 : H1 lf' = none) (f2 : H1 lp' = none) (hl : LDisk K dd ls lf' lp' S S [] H4) (e4 : H4 ln = some (.lst vl)) (w4 : WtL K H4 vl (line.map pageD))
    (e5 : Ex H4 H5) (n5 : H4 ln' = none) (h5 : H5 ln' = some (.lst (cutV vl (some (-1)) none))) :
    LS K CB CD Pt l0 o0 b d a dd od ls lf' lp' ln' S S [] M bk [bk.page] H5 := by
  have m := r.prog (g.mono (by simp))
  have ok' : DskOk S S [] M := ⟨r.ok.s, r.ok.s, by simp, r.ok.ls, r.ok.ls, r.ok.m1, r.ok.m2, by simp⟩
  have nD : ∀ (i : Nat) (x : Addr), [l0, b, d, a, dd, od, ls, lf, lp, ln][i]? = some x → i ∉ [2] → x ∉ [d] := fun i x hx hi => nin r.nd i hx [2] rfl hi
  have n : ∀ (i : Nat) (x : Addr), [l0, b, d, a, dd, od, ls, lf, lp, ln][i]? = some x → i ∉ [4] → x ∉ [dd] := fun i x hx hi => nin r.nd i hx [4] rfl hi
  have th1 : ∀ x ∈ [l0, b, d, a, dd, od, ls, lf, lp, ln], H1 x ≠ none := there_go g r.there fun x _ hx => by
    rw [List.mem_singleton.mp hx]
    obtain ⟨_, _, _, _, e, _⟩ := hd; rw [e]; simp
  have nd1 := nodup_two r.nd (.inr fun mm => th1 _ mm f1) (.inr fun mm => th1 _ mm f2) hl.n3
  have th4 : ∀ x ∈ [l0, b, d, a, dd, od, ls, lf', lp', ln], H4 x ≠ none := fun x hx => by
    have t4 : ∀ x ∈ [l0, b, d, a, dd, od, ls, lf, lp, ln], H4 x ≠ none := there_go g4 th1 fun x _ hx => by
      rw [List.mem_singleton.mp hx, hl.d]; simp
    obtain ⟨_, e1, _⟩ := hl.f
    obtain ⟨_, e2, _⟩ := hl.p
    simp only [List.mem_cons, List.not_mem_nil, or_false] at hx t4
    rcases hx with h | h | h | h | h | h | h | h | h | h
    · exact t4 x (by simp [h])
    · exact t4 x (by simp [h])
    · exact t4 x (by simp [h])
    · exact t4 x (by simp [h])
    · exact t4 x (by simp [h])
    · exact t4 x (by simp [h])
    · exact t4 x (by simp [h])
    · rw [h, e1]; simp
    · rw [h, e2]; simp
    · exact t4 x (by simp [h])
  have nd' : [l0, b, d, a, dd, od, ls, lf', lp', ln'].Nodup := nodup_set nd1 (fun mm => th4 _ mm n5) 9
  have hbo1 := r.bo.go r.pg g (nD 3 _ rfl (by decide))
  obtain ⟨L0, hL0⟩ := r.la
  rw [hL0] at w4
  refine ⟨(m.sc.go g4 (n 0 _ rfl (by decide))).ex e5, r.sg, (m.bx.go g4 (n 1 _ rfl (by decide))).go e5.go (S := []) (by simp), (hd.go ok' g4 (n 2 _ rfl (by decide))).go ok' e5.go (L := []) (by simp), (hbo1.go r.pg g4 (n 3 _ rfl (by decide))).go r.pg e5.go (L := []) (by simp),
    hl.go ok' e5.go (L := []) (by simp), (m.ow.go r.pg g4 (n 5 _ rfl (by decide))).go r.pg e5.go (L := []) (by simp), ok', r.pg, r.iv.flush, ⟨_, h5, (hl_cut w4).ex e5⟩, by simp [r.pg], ⟨[], rfl⟩, ?_, nd', by simp⟩
  exact (Tabs.go m.tb g4 fun s hs => by rw [List.mem_singleton.mp hs]; exact .inr (.inr ⟨_, m.ld.d⟩)).ext e5
theorem LS.fell {H4 : Hp} (r : LS K CB CD Pt l0 o0 b d a dd od ls lf lp ln S F U M bk line H) (g : Go [b, d, dd] H H4) : ScZ l0 o0 H4 ∧ Tabs (tabT Pt) H4 := by
  obtain ⟨_, _, _, eb0⟩ := r.bx
  obtain ⟨_, _, _, _, ed0, _⟩ := r.dk
  refine ⟨r.sc.go g (nin r.nd 0 rfl [1, 2, 4] rfl (by decide)), Tabs.go r.tb g fun s hs => ?_⟩
  simp only [List.mem_cons, List.not_mem_nil, or_false] at hs
  rcases hs with rfl | rfl | rfl
  · exact .inl ⟨_, eb0⟩
  · exact .inr (.inl ⟨_, _, _, ed0⟩)
  · exact .inr (.inr ⟨_, r.ld.d⟩)
theorem nod_ne {L : List Addr} (h : L.Nodup) (i j : Nat) {x y : Addr} (hx : L[i]? = some x) (hy : L[j]? = some y) (hij : i ≠ j) : x ≠ y := fun z => by
  subst z
  exact nin h i hx [j] (S := [x]) (by simp [hy]) (by simpa using hij) (by simp)
/-- behind a fall -/
theorem LS.fallen {a' od' ls' lf' lp' ln' : Addr} {S' : List Slot} {bk' : Bk} {H4 H5 : Hp} {vp : V} (r : LS K CB CD Pt l0 o0 b d a dd od ls lf lp ln S F U M bk line H) (g : Go [b, d, dd] H H4) (hb : BoxAt b H4)
    (fa : H a' = none) (fo : H od' = none) (fs : H ls' = none) (ff : H lf' = none) (fp : H lp' = none) (ok' : DskOk S' S' [] M) (pg' : PageOk bk'.page) (iv' : Inv2 S' S' [] M bk' [bk'.page]) (sy : Sync K CB CD d a' dd od' ls' lf' lp' S' S' [] bk' H4)
    (wp : Wt K H4 vp (pageD bk'.page)) (e5 : Ex H4 H5) (n5 : H4 ln' = none) (h5 : H5 ln' = some (.lst [vp])) :
    LS K CB CD Pt l0 o0 b d a' dd od' ls' lf' lp' ln' S' S' [] M bk' [bk'.page] H5 := by
  have n : ∀ (i : Nat) (x : Addr), [l0, b, d, a, dd, od, ls, lf, lp, ln][i]? = some x → i ∉ [1, 2, 4] → x ∉ [b, d, dd] := fun i x hx hi => nin r.nd i hx [1, 2, 4] rfl hi
  have th := r.there
  have h0 := r.sc.go g (n 0 _ rfl (by decide))
  obtain ⟨_, _, _, eb⟩ := id hb
  obtain ⟨_, _, _, _, ed, _⟩ := sy.dk
  obtain ⟨_, _, ea, _⟩ := sy.bo
  obtain ⟨_, eo, _⟩ := sy.ow
  obtain ⟨_, es, _⟩ := sy.ld.s
  obtain ⟨_, ef, _⟩ := sy.ld.f
  obtain ⟨_, ep, _⟩ := sy.ld.p
  have edd := sy.ld.d
  have nd4 : [l0, b, d, dd].Nodup := nodup_re r.nd [0, 1, 2, 4] (by decide)
  have fr : ∀ x, H x = none → x ∉ [l0, b, d, dd] := fun x hx mm => by
    simp only [List.mem_cons, List.not_mem_nil, or_false] at mm
    rcases mm with rfl | rfl | rfl | rfl <;> exact th _ (by simp) hx
  have th4 : ∀ x ∈ [lp', lf', ls', od', a', l0, b, d, dd], H4 x ≠ none := fun x hx => by
    simp only [List.mem_cons, List.not_mem_nil, or_false] at hx
    rcases hx with h | h | h | h | h | h | h | h | h
    · rw [h, ep]; simp
    · rw [h, ef]; simp
    · rw [h, es]; simp
    · rw [h, eo]; simp
    · rw [h, ea]; simp
    · rw [h]; exact h0.ne
    · rw [h, eb]; simp
    · rw [h, ed]; simp
    · rw [h, edd]; simp
  have k1 : a' ∉ [l0, b, d, dd] := fr _ fa
  have k2 : od' ∉ [a', l0, b, d, dd] := fun mm => by
    rcases List.mem_cons.mp mm with z | z
    · rw [z, ea] at eo; cases eo
    · exact fr _ fo z
  have k3 : ls' ∉ [od', a', l0, b, d, dd] := fun mm => by
    rcases List.mem_cons.mp mm with z | mm
    · rw [z, eo] at es; cases es
    · rcases List.mem_cons.mp mm with z | z
      · rw [z, ea] at es; cases es
      · exact fr _ fs z
  have k4 : lf' ∉ [ls', od', a', l0, b, d, dd] := fun mm => by
    rcases List.mem_cons.mp mm with z | mm
    · exact sy.ld.n1 z.symm
    · rcases List.mem_cons.mp mm with z | mm
      · rw [z, eo] at ef; cases ef
      · rcases List.mem_cons.mp mm with z | z
        · rw [z, ea] at ef; cases ef
        · exact fr _ ff z
  have k5 : lp' ∉ [lf', ls', od', a', l0, b, d, dd] := fun mm => by
    rcases List.mem_cons.mp mm with z | mm
    · exact sy.ld.n3 z.symm
    · rcases List.mem_cons.mp mm with z | mm
      · exact sy.ld.n2 z.symm
      · rcases List.mem_cons.mp mm with z | mm
        · rw [z, eo] at ep; cases ep
        · rcases List.mem_cons.mp mm with z | z
          · rw [z, ea] at ep; cases ep
          · exact fr _ fp z
  have k6 : ln' ∉ [lp', lf', ls', od', a', l0, b, d, dd] := fun mm => th4 _ mm n5
  have N : [ln', lp', lf', ls', od', a', l0, b, d, dd].Nodup := List.nodup_cons.mpr ⟨k6, List.nodup_cons.mpr ⟨k5, List.nodup_cons.mpr ⟨k4, List.nodup_cons.mpr ⟨k3, List.nodup_cons.mpr ⟨k2, List.nodup_cons.mpr ⟨k1, nd4⟩⟩⟩⟩⟩⟩
  obtain ⟨_, _, _, eb0⟩ := r.bx
  obtain ⟨_, _, _, _, ed0, _⟩ := r.dk
  have tb4 : Tabs (tabT Pt) H4 := Tabs.go r.tb g fun s hs => by
    simp only [List.mem_cons, List.not_mem_nil, or_false] at hs
    rcases hs with rfl | rfl | rfl
    · exact .inl ⟨_, eb0⟩
    · exact .inr (.inl ⟨_, _, _, ed0⟩)
    · exact .inr (.inr ⟨_, r.ld.d⟩)
  refine ⟨h0.ex e5, r.sg, hb.go e5.go (S := []) (by simp), sy.dk.go ok' e5.go (L := []) (by simp), sy.bo.go pg' e5.go (L := []) (by simp), sy.ld.go ok' e5.go (L := []) (by simp), sy.ow.go pg' e5.go (L := []) (by simp), ok', pg', iv', ⟨_, h5, .cons (wp.ex e5) .nil⟩, by simp [pg'], ⟨[], rfl⟩, tb4.ext e5, ?_, by simp⟩
  exact nodup_re N [6, 7, 8, 5, 9, 4, 3, 2, 1, 0] (by decide)
end
end Y
/-! part C14 -/
/-! The law. -/
namespace Y
open PySem LamX L2
local macro_rules | `(tactic| walk_at "y1") => `(tactic| (first
  | (with_reducible refine x_seq ?_) | (with_reducible refine x_asg ?_) | (with_reducible refine x_name ?_) | (with_reducible refine x_drop ?_) | (with_reducible refine x_ret ?_) | (with_reducible refine x_retN ?_)
  | (with_reducible refine x_next ?_) | (with_reducible refine x_brk ?_) | (with_reducible refine x_ifS ?_)
  | (with_reducible refine x_c ?_) | (with_reducible refine x_op ?_) | (with_reducible refine x_un ?_) | (with_reducible refine x_cb ?_) | (with_reducible refine x_cons ?_) | (with_reducible refine x_nil ?_)
  | (with_reducible refine x_call ?_) | (with_reducible refine x_tup ?_) | (with_reducible refine x_lst ?_) | (with_reducible refine x_sl ?_) | (with_reducible refine x_nopart ?_) | (with_reducible refine x_part ?_)
  | (with_reducible refine x_andV ?_) | (with_reducible refine x_orV ?_) | (with_reducible refine x_notV ?_) | (with_reducible refine x_if ?_) | (with_reducible refine x_test ?_) | (with_reducible refine x_tb ?_)
  | (with_reducible refine x_and ?_) | (with_reducible refine x_or ?_) | (with_reducible refine x_not ?_) | (with_reducible refine x_chain ?_) | (with_reducible refine x_exbl ?_) | (with_reducible refine x_exint ?_)
  | (with_reducible refine x_fld ?_) | (with_reducible refine x_sfld ?_) | (with_reducible refine x_par ?_) | (with_reducible refine x_par3 ?_) | (with_reducible refine x_dget ?_) | (with_reducible refine x_dput ?_)
  | (with_reducible refine x_bm ?_) | (with_reducible refine x_bm0 ?_) | (with_reducible refine x_pair ?_) | (with_reducible refine x_tri ?_) | (with_reducible refine x_int ?_) | (with_reducible refine x_intb ?_) | (with_reducible refine x_abs ?_) | (with_reducible refine x_isN ?_) | (with_reducible refine x_notN ?_) | (with_reducible refine x_meth ?_) | (with_reducible refine x_make ?_)
  | (with_reducible refine x_ite1 ?_) | (with_reducible refine x_ite0 ?_)
  | (with_reducible refine x_addi ?_) | (with_reducible refine x_neg ?_) | (with_reducible refine x_i0 ?_) | (with_reducible refine x_eqi ?_) | (with_reducible refine x_eqs ?_) | (with_reducible refine x_eqb ?_) | (with_reducible refine x_nei ?_) | (with_reducible refine x_lti ?_)
  | (with_reducible refine x_forL ?_) | (with_reducible refine x_forT ?_) | (with_reducible refine x_forR ?_) | (with_reducible refine x_forR2 ?_) | (with_reducible refine x_lcL ?_) | (with_reducible refine x_lcT ?_) | (with_reducible refine x_lcR ?_)
  | (with_reducible refine x_yes ?_) | (with_reducible refine x_pcons ?_) | (with_reducible refine x_pnil ?_) | (with_reducible refine x_gcons ?_) | (with_reducible refine x_gnil ?_) | (with_reducible refine x_gattr ?_) | (with_reducible refine x_raise ?_) | (with_reducible refine x_gsub ?_) | (with_reducible refine x_fldaug ?_) | (with_reducible refine x_radd ?_) | (with_reducible refine x_ipi ?_) | ((with_reducible refine x_aug (x := ?vv) ?hh ?qq); (case hh => exact rfl))
  | ((with_reducible refine x_iteA ?hc ?q); (case hc => exact rfl)) | ((with_reducible refine x_iteB ?hc ?q); (case hc => exact rfl))
  | ((with_reducible refine x_var (v := ?vv) ?hh ?qq); (case hh => exact rfl))
  | ((with_reducible refine r_isInt (d := ?dd) ?hh ?qq); (case hh => assumption)) | ((with_reducible refine r_isBool (d := ?dd) ?hh ?qq); (case hh => assumption)) | ((with_reducible refine r_isTup (d := ?dd) ?hh ?qq); (case hh => assumption))
  | ((with_reducible refine r_isStr (d := ?dd) ?hh ?qq); (case hh => assumption)) | ((with_reducible refine r_isLst (d := ?dd) ?hh ?qq); (case hh => assumption))))
local macro_rules | `(tactic| walk_at "y") => `(tactic| (repeat (walk_at "y1")))
theorem x_join {σ : L2.St} {H : Hp} (J : L2.St → Hp → Prop) {c : Bool} {A B : TS} {D : Ends} (h : ∀ σ' H', J σ' H' → D.nx σ' H') (q : (∀ σ' H', J σ' H' → D.nx σ' H') → if c = true then A D σ H else B D σ H) : ∃ k, V.bl c = .bl k ∧ if k = true then A D σ H else B D σ H := ⟨c, rfl, q h⟩
theorem fresh_not {H : Hp} {x : Addr} {L : List Addr} (hx : H x = none) (h : ∀ y ∈ L, H y ≠ none) : x ∉ L := fun m => h x m hx
theorem lives_rep (n : Nat) : livesN (List.replicate n (none : Slot)) = [] := by
  unfold livesN
  induction n with
  | zero => rfl
  | succ n ih => rw [List.replicate_succ, List.filterMap_cons]; exact ih
theorem life_rep (n : Nat) : lifeOf (List.replicate n (none : Slot)) = 0 := by
  unfold lifeOf
  rw [lives_rep]
  rfl
theorem hdl_rep (n i : Nat) : Hdl (List.replicate n (none : Slot)) i := fun e he => by
  have := (List.mem_replicate.mp (List.mem_of_getElem? he)).2
  cases this
theorem ok_rep {M : Nat} (h1 : 2 ≤ M) (h2 : M ≤ 32) : DskOk (List.replicate (2 * M) (none : Slot)) (List.replicate (2 * M) (none : Slot)) [] M := by
  have h : ∀ s ∈ List.replicate (2 * M) (none : Slot), SlotOk s := fun s hs => by
    rw [(List.mem_replicate.mp hs).2]
    intro e he
    cases he
  exact ⟨h, h, by simp, by simp, by simp, h1, h2, by simp⟩
theorem ok_first {M : Nat} {first : Page} (h1 : 2 ≤ M) (h2 : M ≤ 32) (hp : PageOk first) : DskOk ((List.replicate (2 * M) (none : Slot)).set 0 (some ⟨1, 1, 0, first⟩)) ((List.replicate (2 * M) (none : Slot)).set 0 (some ⟨1, 1, 0, first⟩)) [] M := by
  have h : ∀ s ∈ (List.replicate (2 * M) (none : Slot)).set 0 (some (⟨1, 1, 0, first⟩ : Entry)), SlotOk s := fun s hs => by
    rcases List.mem_or_eq_of_mem_set hs with z | z
    · rw [(List.mem_replicate.mp z).2]; intro e he; cases he
    · rw [z]; intro e he; cases he; exact hp
  exact ⟨h, h, by simp, by simp, by simp, h1, h2, by simp⟩
theorem x_ifAny {σ : L2.St} {H : Hp} {c : TT} {A B : TS} {D : Ends} (key : ∀ b : Bool, if b = true then A D σ H else B D σ H) (q : (∀ b : Bool, if b = true then A D σ H else B D σ H) → c σ H fun b H1 => if b = true then A D σ H1 else B D σ H1) : tIfS c A B D σ H := q key
theorem x_ifJ {σ : L2.St} {H : Hp} (J : L2.St → Hp → Prop) {c : TT} {A B : TS} {D : Ends} (h : ∀ σ' H', J σ' H' → D.nx σ' H') (q : ∀ nx' : L2.St → Hp → Prop, (∀ σ' H', J σ' H' → nx' σ' H') → tIfS c A B { D with nx := nx' } σ H) : tIfS c A B D σ H := q D.nx h
section
variable {P : Program} {w : World} {K : PySem.W.Frag} {mg : Str → Option Value} {base : Heap}
def spLaw (K : PySem.W.Frag) (Pt : Addr) : Sp := fun vs H Q _ => ∃ (s0 : Addr) (ns : List Int), vs = [.ref s0] ∧ SqL K H s0 (ns.map V.int) ∧ Tabs (tabT Pt) H ∧ ∀ H', Q (.bl true) H'
abbrev s_law : Stmt := top 49
abbrev nms_law : List Str := ["script", "k", "box", "many", "wide", "most", "disk", "slots", "first", "book", "own", "line", "rows", "turn", "kind", "row", "fine"]
theorem sc_law : FnScope nms_law ["script"] (defScope s_law) := ⟨rfl, rfl, rfl, by decide +kernel, rfl, by decide +kernel, by decide +kernel⟩
theorem ok_law {f Pt CB CD : Addr} {fd : FuncData} (ER : Ers P K mg) (B : BookC K CB) (D : DiskC K CD) (F : Fun K "law" "law" s_law f fd) (hm : mg "law" = some (.ref f)) (b : Binds K fd ["script"] []) (T : Bt mg)
    (c_box : Cal P w K mg base 1 "_law_box" (spBox K)) (c_take : Cal P w K mg base 1 "_law_take" spTake) (c_pick : Cal P w K mg base 2 "_law_pick" spPick) (c_row : Cal P w K mg base 4 "_law_row" (spRowL K)) (c_disk : Cal P w K mg base 1 "_law_disk" (spDiskL K)) (c_book : Cal P w K mg base 4 "_law_book" (spBookL K))
    (c_add : Cal P w K mg base 2 "_law_add" (spAddL K)) (c_safe : Cal P w K mg base 1 "_law_safe" (spSafe K)) (c_fallen : Cal P w K mg base 11 "_law_fallen" (spFallen K CB CD)) (c_refused : Cal P w K mg base 12 "_law_refused" (spRefused K CB CD Pt)) (c_stands : Cal P w K mg base 11 "_law_stands" (spStands K CB CD))
    (cDisk : Mak P w K mg base 3 "Disk" CD (spDiskInit K CD)) (cJournal : Mak P w K mg base 7 "Journal" CB (spOpen P K mg ER CB CD)) (m_Journal_add_row : Met P w K mg base 4 CB "add_row" (spAdd P K mg ER CB CD)) (m_Disk_flush : Met P w K mg base 1 CD "flush" (spFlush K CD)) :
    FnOk P w K mg base (L2.CX P w) 13 f fd ["script"] (spLaw K Pt) := by
  refine F.okX sc_law (fun vs H Q E h => ?_) (fun cdv A outer s H vs Q E hr h => ?_)
  · obtain ⟨s0, ns, rfl, _⟩ := h
    rfl
  · obtain ⟨s0, ns, rfl, hS, hT, q⟩ := h
    obtain ⟨l0, o0, h0, zg, zs⟩ : ∃ (l0 : Addr) (o0 : Option HO), ScZ l0 o0 H ∧ ScG Pt l0 o0 ∧ ∀ H', ScZ l0 o0 H' → SqL K H' s0 (ns.map V.int) := by
      have rd : ∀ o, H s0 = some o → (o = .lst (ns.map V.int) ∨ ∃ b, o = .frz b (.lst (ns.map V.int))) → ∃ (l0 : Addr) (o0 : Option HO), ScZ l0 o0 H ∧ ScG Pt l0 o0 ∧ ∀ H', ScZ l0 o0 H' → SqL K H' s0 (ns.map V.int) := fun o e k => by
        refine ⟨s0, some o, .inl ⟨o, rfl, e⟩, .inl ⟨o, rfl, ?_⟩, fun H' z => ?_⟩
        · rcases k with k | ⟨b, k⟩
          · exact .inl ⟨_, k⟩
          · exact .inr ⟨b, _, k⟩
        · rcases z with ⟨o', e', h'⟩ | ⟨e', _⟩
          · cases e'
            rcases k with rfl | ⟨b, rfl⟩
            · exact .inl (.inl h')
            · exact .inl (.inr ⟨b, h'⟩)
          · cases e'
      rcases hS with (e | ⟨b, e⟩) | kc
      · exact rd _ e (.inl rfl)
      · exact rd _ e (.inr ⟨b, rfl⟩)
      · obtain ⟨ps, h1, _⟩ := hT _ (show (Pt, _) ∈ tabT Pt from List.mem_cons_self)
        exact ⟨Pt, none, .inr ⟨rfl, ps, h1⟩, .inr ⟨rfl, rfl⟩, fun H' _ => .inr kc⟩
    have hu64 := pass_hu64 hr
    have hu1 : (A.deeper (PyProof.Rows.envOfC "law" (defScope s_law) s.heap.objs.size f cdv)).units + 1 < cLine := by have := hr.un; omega
    refine ⟨_, (pss_cons (ps_for (passes_of rfl) rfl (pi_range1 (by rfl) T.range (pa_cons pe_int pa_nil)) (pg_name (i := 1) sc_law.nd rfl (by first | exact Or.inl rfl | exact Or.inr rfl))
    (pss_cons (ps_set (i := 2) sc_law.nd rfl (by first | exact Or.inl rfl | exact Or.inr rfl) (pe_c c_box hr (by decide) (by rfl) (pa_cons (pv 0) (pa_cons (pv 1) pa_nil))))
    (pss_cons (ps_set (i := 3) sc_law.nd rfl (by first | exact Or.inl rfl | exact Or.inr rfl) (pe_c c_pick hr (by decide) (by rfl) (pa_cons (pv 2) (pa_cons (pe_lst (pa_cons pe_int (pa_cons pe_int (pa_cons pe_int (pa_cons pe_int (pa_cons (pe_op (oAddK K) pe_int (pe_op oMul pe_int (pe_c c_take hr (by decide) (by rfl) (pa_cons (pv 2) (pa_cons pe_int pa_nil))))) (pa_cons pe_int pa_nil))))))) pa_nil))))
    (pss_cons (ps_par rfl sc_law.nd (i := 4) (j := 5) rfl rfl (by decide) rfl rfl (pa_cons (pe_c c_pick hr (by decide) (by rfl) (pa_cons (pv 2) (pa_cons (pe_lst (pa_cons pe_int (pa_cons pe_int (pa_cons pe_int pa_nil)))) pa_nil))) (pa_cons (pe_c c_pick hr (by decide) (by rfl) (pa_cons (pv 2) (pa_cons (pe_lst (pa_cons pe_int (pa_cons pe_int (pa_cons pe_int (pa_cons pe_int pa_nil))))) pa_nil))) pa_nil)) (by rfl))
    (pss_cons (ps_par3 rfl sc_law.nd (i := 6) (j := 7) (l := 8) rfl rfl rfl (by decide) (by decide) (by decide) rfl rfl rfl (pa_cons (pe_mk cDisk hr (by decide) (by rfl) (pa_cons (pv 3) pa_nil)) (pa_cons (pe_c c_disk hr (by decide) (by rfl) (pa_cons (pv 3) pa_nil)) (pa_cons (pe_c c_row hr (by decide) (by rfl) (pa_cons (pv 2) (pa_cons (pv 5) (pa_cons (pv 4) pa_nil)))) pa_nil))) (by rfl))
    (pss_cons (ps_par rfl sc_law.nd (i := 9) (j := 10) rfl rfl (by decide) rfl rfl (pa_cons (pe_mk cJournal hr (by decide) (by rfl) (pa_cons (pv 6) (pa_cons (pv 8) pa_nil))) (pa_cons (pe_c c_book hr (by decide) (by rfl) (pa_cons (pv 7) (pa_cons (pv 8) pa_nil))) pa_nil)) (by rfl))
    (pss_cons (ps_par rfl sc_law.nd (i := 11) (j := 12) rfl rfl (by decide) rfl rfl (pa_cons (pe_lst (pa_cons (pv 8) pa_nil)) (pa_cons (pe_c c_pick hr (by decide) (by rfl) (pa_cons (pv 2) (pa_cons (pe_lst (pa_cons pe_int (pa_cons pe_int (pa_cons pe_int (pa_cons pe_int (pa_cons pe_int pa_nil)))))) pa_nil))) pa_nil)) (by rfl))
    (pss_cons (ps_if (pt_cmpR (oEqK K hu64) (pe_c c_take hr (by decide) (by rfl) (pa_cons (pv 2) (pa_cons pe_int pa_nil))) pe_int (nomark _))
    (pss_one (ps_asg (pe_tup (pa_cons pe_int (pa_cons pe_int (pa_cons pe_int pa_nil)))) (pg_tup (n := 3) rfl (pgs_cons (pg_name (i := 12) sc_law.nd rfl (by first | exact Or.inl rfl | exact Or.inr rfl)) (pgs_cons (pg_name (i := 5) sc_law.nd rfl (by first | exact Or.inl rfl | exact Or.inr rfl)) (pgs_cons (pg_name (i := 4) sc_law.nd rfl (by first | exact Or.inl rfl | exact Or.inr rfl)) pgs_nil))))))
    pss_nil)
    (pss_cons (ps_for (passes_of rfl) rfl (pi_range1 (by rfl) T.range (pa_cons (pv 12) pa_nil)) (pg_name (i := 13) sc_law.nd rfl (by first | exact Or.inl rfl | exact Or.inr rfl))
    (pss_cons (ps_set (i := 14) sc_law.nd rfl (by first | exact Or.inl rfl | exact Or.inr rfl) (pe_c c_take hr (by decide) (by rfl) (pa_cons (pv 2) (pa_cons pe_int pa_nil))))
    (pss_cons (ps_if (PW.pt (pw_or (pt_cmpR (oLtK K hu64) (pv 14) pe_int (nomark _)) (pw_or1 (PW.pt (pw_and (pt_cmpR (oEqK K hu64) (pv 12) pe_int (nomark _)) (pw_and1 (pt_cmpR (oLtK K hu64) (pv 14) pe_int (nomark _))))))))
    (pss_cons (ps_set (i := 15) sc_law.nd rfl (by first | exact Or.inl rfl | exact Or.inr rfl) (pe_c c_row hr (by decide) (by rfl) (pa_cons (pv 2) (pa_cons (pv 5) (pa_cons (pv 4) pa_nil)))))
    (pss_cons (ps_if (pt_cmpR op_notN1 (pe_mtX m_Journal_add_row hr (by decide) passL (pv 9) (pa_cons (pv 15) pa_nil)) pe_non (nomark _))
    (pss_one (ps_ret pe_bl))
    pss_nil)
    (pss_cons (ps_expr (pe_c c_add hr (by decide) (by rfl) (pa_cons (pv 7) (pa_cons (pv 10) (pa_cons (pv 15) pa_nil)))))
    (pss_one (ps_expr (pe_bm PySem.F.plainAttrs_list PySem.F.slot_list_append PySem.F.type_list_append mt_append (pv 11) (pa_cons (pe_dget hu1 (pv 10) pe_str (fun _ _ => rfl)) pa_nil)))))))
    (pss_one (ps_if (pt_cmpR (oLtK K hu64) (pv 14) pe_int (nomark _))
    (pss_cons (ps_if (pt_cmpR op_notN1 (pe_mt0X m_Disk_flush hr (by decide) passL (pv 6)) pe_non (nomark _))
    (pss_one (ps_ret pe_bl))
    pss_nil)
    (pss_cons (ps_expr (pe_c c_safe hr (by decide) (by rfl) (pa_cons (pv 7) pa_nil)))
    (pss_one (ps_set (i := 11) sc_law.nd rfl (by first | exact Or.inl rfl | exact Or.inr rfl) (pe_slice (oSlK K) (pv 11) (po_some (pe_un un_neg pe_int)) po_none)))))
    (pss_one (ps_if (pt_cmpR (oLtK K hu64) (pv 14) pe_int (nomark _))
    (pss_cons (ps_asg (pe_c c_fallen hr (by decide) (by rfl) (pa_cons (pv 2) (pa_cons (pv 6) (pa_cons (pv 7) (pa_cons (pv 11) pa_nil))))) (pg_tup (n := 3) rfl (pgs_cons (pg_name (i := 9) sc_law.nd rfl (by first | exact Or.inl rfl | exact Or.inr rfl)) (pgs_cons (pg_name (i := 10) sc_law.nd rfl (by first | exact Or.inl rfl | exact Or.inr rfl)) (pgs_cons (pg_name (i := 16) sc_law.nd rfl (by first | exact Or.inl rfl | exact Or.inr rfl)) pgs_nil)))))
    (pss_cons (ps_if (pt_not (pt_val (pv 16)))
    (pss_one (ps_ret pe_bl))
    pss_nil)
    (pss_one (ps_set (i := 11) sc_law.nd rfl (by first | exact Or.inl rfl | exact Or.inr rfl) (pe_lst (pa_cons (pe_dget hu1 (pv 10) pe_str (fun _ _ => rfl)) pa_nil))))))
    (pss_one (ps_if (pt_not (pt_val (pe_c c_refused hr (by decide) (by rfl) (pa_cons (pv 2) (pa_cons (pv 6) (pa_cons (pv 9) (pa_cons (pe_dget hu1 (pv 10) pe_str (fun _ _ => rfl)) pa_nil)))))))
    (pss_one (ps_ret pe_bl))
    pss_nil)))))))
    (pss_one (ps_if (PW.pt (pw_and (pt_cmpR op_gt (pv 14) pe_int (nomark _)) (pw_and (pt_cmpR (oLtK K hu64) (pv 12) pe_int (nomark _)) (pw_and1 (pt_not (pt_val (pe_c c_stands hr (by decide) (by rfl) (pa_cons (pv 6) (pa_cons (pv 9) (pa_cons (pv 7) (pa_cons (pv 10) pa_nil)))))))))))
    (pss_one (ps_ret pe_bl))
    pss_nil)))))
    (pss_cons (ps_if (pt_not (pt_val (pe_c c_stands hr (by decide) (by rfl) (pa_cons (pv 6) (pa_cons (pv 9) (pa_cons (pv 7) (pa_cons (pv 10) pa_nil)))))))
    (pss_one (ps_ret pe_bl))
    pss_nil)
    (pss_cons (ps_asg (pe_c c_fallen hr (by decide) (by rfl) (pa_cons (pv 2) (pa_cons (pv 6) (pa_cons (pv 7) (pa_cons (pv 11) pa_nil))))) (pg_tup (n := 3) rfl (pgs_cons (pg_name (i := 9) sc_law.nd rfl (by first | exact Or.inl rfl | exact Or.inr rfl)) (pgs_cons (pg_name (i := 10) sc_law.nd rfl (by first | exact Or.inl rfl | exact Or.inr rfl)) (pgs_cons (pg_name (i := 16) sc_law.nd rfl (by first | exact Or.inl rfl | exact Or.inr rfl)) pgs_nil)))))
    (pss_one (ps_if (PW.pt (pw_or (pt_not (pt_val (pv 16))) (pw_or1 (pt_not (pt_val (pe_c c_stands hr (by decide) (by rfl) (pa_cons (pv 6) (pa_cons (pv 9) (pa_cons (pv 7) (pa_cons (pv 10) pa_nil))))))))))
    (pss_one (ps_ret pe_bl))
    pss_nil)))))))))))))
    (pss_one (ps_ret pe_bl))), ?_⟩
    try dsimp only [cxOf]
    refine x_seq (x_forR ?_)
    walk_at "y"
    rw [show (2 : Int) = ((2 : Nat) : Int) from rfl]
    refine y_forR 2 (fun i σ H' => ScZ l0 o0 H' ∧ Tabs (tabT Pt) H' ∧ ∃ o1 o2 o3 o4 o5 o6 o7 o8 o9 o10 o11 o12 o13 o14 o15 o16, σ = [some (.ref s0), o1, o2, o3, o4, o5, o6, o7, o8, o9, o10, o11, o12, o13, o14, o15, o16]) (by decide) ⟨h0, hT, _, _, _, _, _, _, _, _, _, _, _, _, _, _, _, _, rfl⟩ (fun k σ H1 hk p => ?_) fun σ H1 p => ?_
    · obtain ⟨h1, t1, o1, o2, o3, o4, o5, o6, o7, o8, o9, o10, o11, o12, o13, o14, o15, o16, rfl⟩ := p
      walk_at "y"
      refine ⟨s0, ns, k, rfl, zs _ h1, by omega, fun b H2 e2 n2 hb2 => ?_⟩
      have h2 := h1.ex e2
      have t2 := t1.ext e2
      walk_at "y"
      refine ⟨b, 31, rfl, hb2, by decide, by decide, fun r H3 hr3 g3 hb3 => ?_⟩
      have nl0b : l0 ≠ b := fun z => h1.ne (by rw [z]; exact n2)
      have pb2 : ∀ s ∈ [b], Plainish H2 s := fun s hs => by
        obtain ⟨i, j, k, e⟩ := hb2
        rw [List.mem_singleton.mp hs]; exact .inl ⟨_, e⟩
      have h3 := h2.go g3 (by simp [nl0b])
      have t3 := Tabs.go t2 g3 pb2
      walk_at "y"
      refine x_muli (.inl (by decide)) ?_
      walk_at "y"
      refine x_mkl fun p4 H4 e4 n4 h4 => ?_
      have hb4 := hb3.go e4.go (S := []) (by simp)
      have nb4 : b ≠ p4 := fun z => box_ne hb3 (by rw [z]; exact n4)
      walk_at "y"
      refine ⟨b, p4, _, rfl, hb4, h4, nb4, by simp, by simp, fun i x5 H5 hx5 g5 hb5 => ?_⟩
      obtain ⟨M, rfl, m1, m2⟩ : ∃ M : Nat, x5 = .int ((2 * M : Nat) : Int) ∧ 2 ≤ M ∧ M ≤ 32 := by
        match i with
        | 0 => cases hx5; exact ⟨2, rfl, by decide, by decide⟩
        | 1 => cases hx5; exact ⟨2, rfl, by decide, by decide⟩
        | 2 => cases hx5; exact ⟨3, rfl, by decide, by decide⟩
        | 3 => cases hx5; exact ⟨4, rfl, by decide, by decide⟩
        | 4 =>
          cases hx5
          refine ⟨2 + r, ?_, by omega, by omega⟩
          congr 1
          omega
        | 5 => cases hx5; exact ⟨32, rfl, by decide, by decide⟩
        | _ + 6 => cases hx5
      have pb4 : ∀ s ∈ [b], Plainish H4 s := fun s hs => by
        obtain ⟨i, j, k, e⟩ := hb4
        rw [List.mem_singleton.mp hs]; exact .inl ⟨_, e⟩
      have h5 := (h3.ex e4).go g5 (by simp [nl0b])
      have t5 := Tabs.go (t3.ext e4) g5 pb4
      walk_at "y"
      refine x_mkl fun p6 H6 e6 n6 h6 => ?_
      have hb6 := hb5.go e6.go (S := []) (by simp)
      have nb6 : b ≠ p6 := fun z => box_ne hb5 (by rw [z]; exact n6)
      walk_at "y"
      refine ⟨b, p6, _, rfl, hb6, h6, nb6, by simp, by simp, fun i x7 H7 hx7 g7 hb7 => ?_⟩
      obtain ⟨wide, rfl, w1, w2⟩ : ∃ n : Nat, x7 = .int (n : Int) ∧ 0 < n ∧ n ≤ 5 := by
        match i with
        | 0 => cases hx7; exact ⟨1, rfl, by decide, by decide⟩
        | 1 => cases hx7; exact ⟨2, rfl, by decide, by decide⟩
        | 2 => cases hx7; exact ⟨5, rfl, by decide, by decide⟩
        | _ + 3 => cases hx7
      have pb6 : ∀ s ∈ [b], Plainish H6 s := fun s hs => by
        obtain ⟨i, j, k, e⟩ := hb6
        rw [List.mem_singleton.mp hs]; exact .inl ⟨_, e⟩
      have h7 := (h5.ex e6).go g7 (by simp [nl0b])
      have t7 := Tabs.go (t5.ext e6) g7 pb6
      walk_at "y"
      refine x_mkl fun p8 H8 e8 n8 h8 => ?_
      have hb8 := hb7.go e8.go (S := []) (by simp)
      have nb8 : b ≠ p8 := fun z => box_ne hb7 (by rw [z]; exact n8)
      walk_at "y"
      refine ⟨b, p8, _, rfl, hb8, h8, nb8, by simp, by simp, fun i x9 H9 hx9 g9 hb9 => ?_⟩
      obtain ⟨most, rfl, mo⟩ : ∃ n : Nat, x9 = .int (n : Int) ∧ n ≤ 14 := by
        match i with
        | 0 => cases hx9; exact ⟨1, rfl, by decide⟩
        | 1 => cases hx9; exact ⟨2, rfl, by decide⟩
        | 2 => cases hx9; exact ⟨4, rfl, by decide⟩
        | 3 => cases hx9; exact ⟨14, rfl, by decide⟩
        | _ + 4 => cases hx9
      have pb8 : ∀ s ∈ [b], Plainish H8 s := fun s hs => by
        obtain ⟨i, j, k, e⟩ := hb8
        rw [List.mem_singleton.mp hs]; exact .inl ⟨_, e⟩
      have h9 := (h7.ex e8).go g9 (by simp [nl0b])
      have t9 := Tabs.go (t7.ext e8) g9 pb8
      walk_at "y"
      -- the disk
      refine fun d dxd hnd hdxd hned => ?_
      have e10 : Ex H9 (upd (upd H9 dxd (.own d)) d (.ins CD dxd [])) := (Ex.new hdxd).trans (Ex.new (by rw [upd_ne (Ne.symm hned)]; exact hnd))
      have hx10 : (upd (upd H9 dxd (.own d)) d (.ins CD dxd [])) d = some (.ins CD dxd []) := upd_same
      revert e10 hx10
      generalize upd (upd H9 dxd (.own d)) d (.ins CD dxd []) = H10
      intro e10 hx10
      refine ⟨d, dxd, 2 * M, rfl, hx10, ⟨by omega, by omega, by omega⟩, fun H11 g11 hd11 => ⟨rfl, ?_⟩⟩
      have e911 : Ex H9 H11 := ex_of_go e10 hnd g11
      have repl : List.replicate (2 * M) (PyData.tuple []) = (List.replicate (2 * M) (none : Slot)).map slD := by rw [List.map_replicate]; rfl
      have hd11 : DskAt K CD d (List.replicate (2 * M) none) (List.replicate (2 * M) none) [] H11 := by
        unfold DskAt
        rw [← repl]
        exact hd11
      have ok0 : DskOk (List.replicate (2 * M) (none : Slot)) (List.replicate (2 * M) (none : Slot)) [] M := ok_rep m1 m2
      walk_at "y"
      refine ⟨2 * M, rfl, by omega, fun dd ls lf lp H12 e12 f1 f2 f3 f4 hl12 => ?_⟩
      have e912 := e911.trans e12
      have hb12 := hb9.go e912.go (S := []) (by simp)
      have hd12 := hd11.go ok0 e12.go (L := []) (by simp)
      walk_at "y"
      have nbd : b ≠ d := fun z => box_ne hb9 (by rw [z]; exact hnd)
      have nbf : ∀ x, H11 x = none → b ≠ x := fun x hx z => box_ne (hb9.go e911.go (S := []) (by simp)) (by rw [z]; exact hx)
      refine ⟨b, most, wide, rfl, hb12, mo, w1, w2, fun x13 first H13 g13 hb13 wf hpf => ?_⟩
      have hd13 := hd12.go ok0 g13 (by simp [Ne.symm nbd])
      have hl13 := hl12.go ok0 g13 (by simp [Ne.symm (nbf _ f1), Ne.symm (nbf _ f2), Ne.symm (nbf _ f3), Ne.symm (nbf _ f4)])
      have pb12 : ∀ s ∈ [b], Plainish H12 s := fun s hs => by
        obtain ⟨i, j, k, e⟩ := hb12
        rw [List.mem_singleton.mp hs]; exact .inl ⟨_, e⟩
      have h13 := (h9.ex e912).go g13 (by simp [nl0b])
      have t13 := Tabs.go (t9.ext e912) g13 pb12
      walk_at "y"
      -- the journal
      refine fun a dxa hna hdxa hnea => ?_
      have e14 : Ex H13 (upd (upd H13 dxa (.own a)) a (.ins CB dxa [])) := (Ex.new hdxa).trans (Ex.new (by rw [upd_ne (Ne.symm hnea)]; exact hna))
      have hx14 : (upd (upd H13 dxa (.own a)) a (.ins CB dxa [])) a = some (.ins CB dxa []) := upd_same
      revert e14 hx14
      generalize upd (upd H13 dxa (.own a)) a (.ins CB dxa []) = H14
      intro e14 hx14
      have nad : a ≠ d := fun z => by
        obtain ⟨_, _, _, _, e, _⟩ := hd13
        rw [← z, hna] at e; cases e
      have rh0 : RH (List.replicate (2 * M) (none : Slot)) M 0 none := .none (hdl_rep _ _)
      have rh1 : RH (List.replicate (2 * M) (none : Slot)) M M none := .none (hdl_rep _ _)
      refine ⟨a, .ref d, x13, dxa, rfl, hx14, .inr ⟨d, _, _, [], M, rfl, hd13.go ok0 e14.go (L := []) (by simp), ok0, nad, .inr ⟨first, none, none, wf.ex e14, hpf, rh0, rh1, fun H15 g15 hbo15 hd15 => ⟨rfl, ?_⟩⟩⟩⟩
      have hbo15 : BookAt K CB a d ⟨1 + lifeOf (List.replicate (2 * M) (none : Slot)), 1, 0, 0, first⟩ H15 := hbo15
      have hd15 : DskAt K CD d ((List.replicate (2 * M) (none : Slot)).set 0 (some ⟨1, 1 + lifeOf (List.replicate (2 * M) (none : Slot)), 0, first⟩)) ((List.replicate (2 * M) (none : Slot)).set 0 (some ⟨1, 1 + lifeOf (List.replicate (2 * M) (none : Slot)), 0, first⟩)) [] H15 := hd15
      have g1315 : Go [d] H13 H15 := Go.fresh e14 hna (g15.mono (by simp))
      have kd : ∀ x, (∃ xs, H13 x = some (.lst xs)) ∨ (∃ kvs, H13 x = some (.dK kvs)) → x ∉ [d] := fun x hx z => by
        obtain ⟨_, _, _, _, e, _⟩ := hd13
        rw [List.mem_singleton.mp z, e] at hx
        rcases hx with ⟨_, hx⟩ | ⟨_, hx⟩ <;> cases hx
      have hl15 := hl13.go ok0 g1315 ⟨kd _ (.inr ⟨_, hl13.d⟩), kd _ (.inl (by obtain ⟨_, e, _⟩ := hl13.s; exact ⟨_, e⟩)), kd _ (.inl (by obtain ⟨_, e, _⟩ := hl13.f; exact ⟨_, e⟩)), kd _ (.inl (by obtain ⟨_, e, _⟩ := hl13.p; exact ⟨_, e⟩))⟩
      have hb15 := hb13.go g1315 (by simp [nbd])
      have wf15 := wf.go g1315 (lay_page hpf).to
      have h15 := h13.go g1315 (fun z => by obtain ⟨_, _, _, _, e, _⟩ := hd13; rw [List.mem_singleton.mp z] at h13; exact h13.ins (by rw [← List.mem_singleton.mp z]; exact zg) e)
      have t15 : Tabs (tabT Pt) H15 := Tabs.go t13 g1315 fun s hs => by
        obtain ⟨_, _, _, _, e, _⟩ := hd13
        rw [List.mem_singleton.mp hs]; exact .inr (.inl ⟨_, _, _, e⟩)
      walk_at "y"
      -- the law's own book
      refine ⟨dd, ls, lf, lp, x13, first, _, _, [], M, none, none, rfl, hl15, ok0, by simp, wf15, hpf, rh0, rh1, ?_⟩
      refine fun od lf' lp' H16 g16 nod nfp ho16 hl16 => ?_
      have ho16 : OwnAt K od ⟨1 + lifeOf (List.replicate (2 * M) (none : Slot)), 1, 0, 0, first⟩ H16 := ho16
      rw [life_rep] at hbo15 hd15 ho16 hl16
      have h16 := h15.go g16 (by
        simp only [List.mem_cons, List.not_mem_nil, or_false, not_or]
        refine ⟨fun z => ?_, fun z => ?_, fun z => ?_⟩
        · have := hl15.d; rw [← z] at this; exact h15.dK zg this
        · exact h9.ne (by rw [z]; exact e911.free f2)
        · exact h9.ne (by rw [z]; exact e911.free f4))
      have gb16 : b ∉ [dd, ls, lp] := by
        simp only [List.mem_cons, List.not_mem_nil, or_false, not_or]
        exact ⟨nbf _ f1, nbf _ f2, nbf _ f4⟩
      have hb16 := hb15.go g16 gb16
      have kd16 : ∀ x C dx fs, H15 x = some (.ins C dx fs) → x ∉ [dd, ls, lp] := fun x C dx fs hx => by
        simp only [List.mem_cons, List.not_mem_nil, or_false, not_or]
        refine ⟨fun z => ?_, fun z => ?_, fun z => ?_⟩
        · have := hl15.d; rw [← z, hx] at this; cases this
        · obtain ⟨_, e, _⟩ := hl15.s; rw [← z, hx] at e; cases e
        · obtain ⟨_, e, _⟩ := hl15.p; rw [← z, hx] at e; cases e
      have okF := ok_first (first := first) m1 m2 hpf
      have hd16 : DskAt K CD d _ _ [] H16 := DskAt.go (M := M) (U := []) hd15 okF g16 (by obtain ⟨_, _, _, _, e, _⟩ := hd15; exact kd16 _ _ _ _ e)
      have hbo16 : BookAt K CB a d ⟨1, 1, 0, 0, first⟩ H16 := BookAt.go (b := ⟨1, 1, 0, 0, first⟩) hbo15 hpf g16 (by obtain ⟨_, _, e, _⟩ := hbo15; exact kd16 _ _ _ _ e)
      have t16 : Tabs (tabT Pt) H16 := Tabs.go t15 g16 fun s hs => by
        simp only [List.mem_cons, List.not_mem_nil, or_false] at hs
        rcases hs with rfl | rfl | rfl
        · exact .inr (.inr ⟨_, hl15.d⟩)
        · obtain ⟨_, e, _⟩ := hl15.s; exact .inl ⟨_, e⟩
        · obtain ⟨_, e, _⟩ := hl15.p; exact .inl ⟨_, e⟩
      have wf16 := wf15.go g16 (lay_page hpf).to
      walk_at "y"
      refine x_mkl fun ln H17 e17 n17 h17 => ?_
      have nd : [l0, b, d, a, dd, od, ls, lf', lp', ln].Nodup := by
        have p9 : ∀ y ∈ [b, l0], H9 y ≠ none := fun y hy => by
          simp only [List.mem_cons, List.not_mem_nil, or_false] at hy
          rcases hy with rfl | rfl
          · exact box_ne hb9
          · exact h9.ne
        have d11 : H11 d ≠ none := by obtain ⟨_, _, _, _, e, _⟩ := hd11; rw [e]; simp
        have p11 : ∀ y ∈ [d, b, l0], H11 y ≠ none := fun y hy => by
          rcases List.mem_cons.mp hy with rfl | hy
          · exact d11
          · exact fun z => p9 y hy (e911.free z)
        have dls : dd ≠ ls := fun z => by obtain ⟨_, e, _⟩ := hl15.s; have := hl15.d; rw [z, e] at this; cases this
        have p13 : ∀ y ∈ [ls, dd, d, b, l0], H13 y ≠ none := fun y hy => by
          simp only [List.mem_cons, List.not_mem_nil, or_false] at hy
          rcases hy with rfl | rfl | rfl | rfl | rfl
          · obtain ⟨_, e, _⟩ := hl13.s; rw [e]; simp
          · rw [hl13.d]; simp
          · obtain ⟨_, _, _, _, e, _⟩ := hd13; rw [e]; simp
          · exact box_ne hb13
          · exact h13.ne
        have p15 : ∀ y ∈ [a, ls, dd, d, b, l0], H15 y ≠ none := fun y hy => by
          simp only [List.mem_cons, List.not_mem_nil, or_false] at hy
          rcases hy with rfl | rfl | rfl | rfl | rfl | rfl
          · obtain ⟨_, _, e, _⟩ := hbo15; rw [e]; simp
          · obtain ⟨_, e, _⟩ := hl15.s; rw [e]; simp
          · rw [hl15.d]; simp
          · obtain ⟨_, _, _, _, e, _⟩ := hd15; rw [e]; simp
          · exact box_ne hb15
          · exact h15.ne
        have p16 : ∀ y ∈ [lp', lf', od, a, ls, dd, d, b, l0], H16 y ≠ none := fun y hy => by
          simp only [List.mem_cons, List.not_mem_nil, or_false] at hy
          rcases hy with rfl | rfl | rfl | rfl | rfl | rfl | rfl | rfl | rfl
          · obtain ⟨_, e, _⟩ := hl16.p; rw [e]; simp
          · obtain ⟨_, e, _⟩ := hl16.f; rw [e]; simp
          · obtain ⟨_, e, _⟩ := ho16; rw [e]; simp
          · obtain ⟨_, _, e, _⟩ := hbo16; rw [e]; simp
          · obtain ⟨_, e, _⟩ := hl16.s; rw [e]; simp
          · rw [hl16.d]; simp
          · obtain ⟨_, _, _, _, e, _⟩ := hd16; rw [e]; simp
          · exact box_ne hb16
          · exact h16.ne
        have olf : lf' ≠ od := fun z => by obtain ⟨_, e, _⟩ := hl16.f; obtain ⟨_, e2, _⟩ := ho16; rw [z, e2] at e; cases e
        have olp : lp' ≠ od := fun z => by obtain ⟨_, e, _⟩ := hl16.p; obtain ⟨_, e2, _⟩ := ho16; rw [z, e2] at e; cases e
        have r1 : [d, b, l0].Nodup := List.nodup_cons.mpr ⟨fresh_not hnd p9, by simp [Ne.symm nl0b]⟩
        have r2 : [ls, dd, d, b, l0].Nodup := List.nodup_cons.mpr ⟨by
          intro m
          rcases List.mem_cons.mp m with z | z
          · exact dls z.symm
          · exact fresh_not f2 p11 z, List.nodup_cons.mpr ⟨fresh_not f1 p11, r1⟩⟩
        have r3 : [a, ls, dd, d, b, l0].Nodup := List.nodup_cons.mpr ⟨fresh_not hna p13, r2⟩
        have r4 : [lp', lf', od, a, ls, dd, d, b, l0].Nodup := List.nodup_cons.mpr ⟨by
          intro m
          rcases List.mem_cons.mp m with z | m
          · exact hl16.n3 z.symm
          · rcases List.mem_cons.mp m with z | m
            · exact olp z
            · exact fresh_not nfp.2 p15 m, List.nodup_cons.mpr ⟨by
          intro m
          rcases List.mem_cons.mp m with z | m
          · exact olf z
          · exact fresh_not nfp.1 p15 m, List.nodup_cons.mpr ⟨fresh_not nod p15, r3⟩⟩⟩
        have r5 : [ln, lp', lf', od, a, ls, dd, d, b, l0].Nodup := List.nodup_cons.mpr ⟨fresh_not n17 p16, r4⟩
        exact nodup_re r5 [9, 8, 7, 4, 6, 3, 5, 2, 1, 0] (by decide)
      have L17 : LS K CB CD Pt l0 o0 b d a dd od ls lf' lp' ln ((List.replicate (2 * M) (none : Slot)).set 0 (some ⟨1, 1, 0, first⟩)) ((List.replicate (2 * M) (none : Slot)).set 0 (some ⟨1, 1, 0, first⟩)) [] M ⟨1, 1, 0, 0, first⟩ [first] H17 :=
        ⟨h16.ex e17, zg, hb16.go e17.go (S := []) (by simp), hd16.go okF e17.go (L := []) (by simp), BookAt.go (b := ⟨1, 1, 0, 0, first⟩) hbo16 hpf e17.go (L := []) (by simp), hl16.go okF e17.go (L := []) (by simp), OwnAt.go (b := ⟨1, 1, 0, 0, first⟩) ho16 hpf e17.go (L := []) (by simp), okF, hpf, inv_first m1, ⟨_, h17, .cons (wf16.ex e17) .nil⟩, by simp [hpf], ⟨[], rfl⟩, t16.ext e17, nd, by simp⟩
      walk_at "y"
      refine x_mkl fun p18 H18 e18 n18 h18 => ?_
      have L18 := L17.ex e18
      have nb18 : b ≠ p18 := fun z => box_ne L17.bx (by rw [z]; exact n18)
      walk_at "y"
      refine ⟨b, p18, _, rfl, L18.bx, h18, nb18, by simp, by simp, fun i x19 H19 hx19 g19 hb19 => ?_⟩
      have L19 := L18.box g19 hb19
      obtain ⟨R, rfl, hR⟩ : ∃ R : Nat, x19 = .int (R : Int) ∧ R ≤ 1200 := by
        match i with
        | 0 => cases hx19; exact ⟨3, rfl, by decide⟩
        | 1 => cases hx19; exact ⟨12, rfl, by decide⟩
        | 2 => cases hx19; exact ⟨40, rfl, by decide⟩
        | 3 => cases hx19; exact ⟨40, rfl, by decide⟩
        | 4 => cases hx19; exact ⟨150, rfl, by decide⟩
        | _ + 5 => cases hx19
      walk_at "y"
      refine ⟨b, 30, rfl, L19.bx, by decide, by decide, fun r20 H20 hr20 g20 hb20 => ?_⟩
      have L20 := L19.box g20 hb20
      clear L17 L18 L19 hl16 ho16 hbo16 hd16 hl15 hbo15 hd15 hl13 hd13 hd12 hl12 hd11
      -- from the loop on
      refine x_c (x_eqi (x_join (fun σ' H' => ∃ (R most wide : Nat) (o13 o14 o15 o16 : Option V), R ≤ 1200 ∧ most ≤ 14 ∧ 0 < wide ∧ wide ≤ 5 ∧
        σ' = [some (.ref s0), some (.int (k : Int)), some (.ref b), some (.int ((2 * M : Nat) : Int)), some (.int (wide : Int)), some (.int (most : Int)), some (.ref d), some (.ref dd), some x13, some (.ref a), some (.ref od), some (.ref ln), some (.int (R : Int)), o13, o14, o15, o16] ∧
        LS K CB CD Pt l0 o0 b d a dd od ls lf' lp' ln ((List.replicate (2 * M) (none : Slot)).set 0 (some ⟨1, 1, 0, first⟩)) ((List.replicate (2 * M) (none : Slot)).set 0 (some ⟨1, 1, 0, first⟩)) [] M ⟨1, 1, 0, 0, first⟩ [first] H') (fun σ' H21 p => ?_) (fun tail => ?_)))
      · obtain ⟨R, most, wide, o13, o14, o15, o16, hR, mo, w1, w2, rfl, L21⟩ := p
        walk_at "y"
        refine y_forR R (fun i σ' H' => ∃ (a od ls lf lp ln : Addr) (S F : List Slot) (U : List (Nat × Entry)) (bk : Bk) (line : List Page) (o13 o14 o15 o16 : Option V),
          σ' = [some (.ref s0), some (.int (k : Int)), some (.ref b), some (.int ((2 * M : Nat) : Int)), some (.int (wide : Int)), some (.int (most : Int)), some (.ref d), some (.ref dd), some x13, some (.ref a), some (.ref od), some (.ref ln), some (.int (R : Int)), o13, o14, o15, o16] ∧
          LS K CB CD Pt l0 o0 b d a dd od ls lf lp ln S F U M bk line H' ∧ line.length ≤ i + 1) (by omega) ⟨_, _, _, _, _, _, _, _, _, _, _, o13, o14, o15, o16, rfl, L21, by simp⟩ (fun i σ' H22 hi p => ?_) (fun σ' H22 p => ?_)
        · obtain ⟨a, od, ls, lf, lp, ln, S, F, U, bk, line, o13, o14, o15, o16, rfl, L22, hlen⟩ := p
          walk_at "y"
          refine ⟨b, 20, rfl, L22.bx, by decide, by decide, fun kd H23 hkd g23 hb23 => ?_⟩
          have L23 := L22.box g23 hb23
          walk_at "y1"
          walk_at "y1"
          refine x_ifJ (fun σ' H' => ∃ (a od ls lf lp ln : Addr) (S F : List Slot) (U : List (Nat × Entry)) (bk : Bk) (line : List Page) (o15 o16 : Option V),
            σ' = [some (.ref s0), some (.int (k : Int)), some (.ref b), some (.int ((2 * M : Nat) : Int)), some (.int (wide : Int)), some (.int (most : Int)), some (.ref d), some (.ref dd), some x13, some (.ref a), some (.ref od), some (.ref ln), some (.int (R : Int)), some (.int (i : Int)), some (.int (kd : Int)), o15, o16] ∧
            LS K CB CD Pt l0 o0 b d a dd od ls lf lp ln S F U M bk line H' ∧ line.length ≤ i + 2) (fun σ' H24 p => ?_) (fun nx' tail => ?_)
          · obtain ⟨a, od, ls, lf, lp, ln, S, F, U, bk, line, o15, o16, rfl, L24, hlen⟩ := p
            have stands : ∀ Q' : VK, (∀ H', Ex H24 H' → Q' (.bl true) H') → spStands K CB CD [.ref d, .ref a, .ref dd, .ref od] H24 Q' E0 := fun Q' q' => ⟨d, a, dd, od, ls, lf, lp, bk, S, F, U, M, rfl, L24.dk, L24.bo, L24.ld, L24.ow, L24.ok, L24.pg, q'⟩
            walk_at "y"
            split
            · walk_at "y"
              split
              · walk_at "y"
                refine stands _ fun H25 e25 => ?_
                walk_at "y"
                exact ⟨a, od, ls, lf, lp, ln, S, F, U, bk, line, _, _, o15, o16, rfl, L24.ex e25, hlen⟩
              · walk_at "y"
                exact ⟨a, od, ls, lf, lp, ln, S, F, U, bk, line, _, _, o15, o16, rfl, L24, hlen⟩
            · walk_at "y"
              exact ⟨a, od, ls, lf, lp, ln, S, F, U, bk, line, _, _, o15, o16, rfl, L24, hlen⟩
          · refine x_ifAny (fun br => ?_) (fun key => ?_)
            · cases br with
              | true =>
                refine x_ite1 ?_
                walk_at "y"
                refine ⟨b, most, wide, rfl, L23.bx, mo, w1, w2, fun x15 p H25 g25 hb25 wp hp => ?_⟩
                have L25 := L23.box g25 hb25
                obtain ⟨dx, v, ea, wv⟩ := id L25.bo
                walk_at "y"
                refine x_kmeth ea rfl ?_
                walk_at "y"
                refine ⟨a, d, x15, bk, S, F, U, M, pageD p, rfl, L25.bo, L25.dk, L25.ok, L25.pg, L25.iv.hh, L25.last_lt, wp, pageSide_ok hp, nod_ne L25.nd 3 2 rfl rfl (by decide), .inr ⟨p, rfl, hp, fun H26 g26 hbo26 hd26 => ?_⟩⟩
                have mid := L25.prog g26
                obtain ⟨vl, el26, wl26⟩ := mid.hl
                walk_at "y"
                refine ⟨dd, ls, lf, lp, od, x15, p, bk, S, F, U, M, rfl, mid.ld, L25.ok, mid.ow, L25.pg, L25.iv.hh, L25.last_lt, wp.go g26 (lay_page hp).to, hp, nod_ne L25.nd 5 4 rfl rfl (by decide), fun lf2 lp2 H27 g27 f1 f2 ho27 hl27 => ?_⟩
                have nln : ln ∉ [dd, od, ls, lp] := nin L25.nd 9 rfl [4, 5, 6, 8] rfl (by decide)
                have el27 := g27.keep _ _ nln el26
                have wl27 := wl26.go g27 (line_to L25.lo)
                obtain ⟨vo, eo, wo⟩ := id ho27
                have lvl : vl.length ≤ 1201 := by rw [wl26.len, List.length_map]; omega
                walk_at "y"
                refine ⟨x_tyl el27, ?_⟩
                walk_at "y"
                refine x_kdgetK eo rfl ?_
                walk_at "y"
                refine x_append el27 (by omega) fun H28 g28 h28 => ?_
                walk_at "y"
                exact tail _ _ ⟨a, od, ls, lf2, lp2, ln, _, _, _, _, _, _, o16, rfl, L25.added hp g26 hbo26 hd26 g27 f1 f2 ho27 hl27 g28 el27 wl27 wo h28, by rw [List.length_append, List.length_singleton]; omega⟩
              | false =>
                refine x_ite0 (x_ifAny (fun br => ?_) (fun key => ?_))
                · cases br with
                  | true =>
                    refine x_ite1 ?_
                    walk_at "y"
                    obtain ⟨dx, v1, v2, v3, ed, _⟩ := id L23.dk
                    refine x_kmeth ed rfl ?_
                    walk_at "y"
                    refine ⟨d, S.map slD, F.map slD, U.map entP, rfl, L23.dk, L23.ok.d, fun H25 g25 hd25 => ?_⟩
                    have hd25 : DskAt K CD d S S [] H25 := hd25
                    have mid := L23.prog (g25.mono (by simp))
                    obtain ⟨vl, el25, wl25⟩ := mid.hl
                    walk_at "y"
                    refine ⟨dd, ls, lf, lp, S, F, U, M, rfl, mid.ld, L23.ok, fun lf2 lp2 H26 g26 f1 f2 hl26 => ?_⟩
                    have nln : ln ∉ [dd] := nin L23.nd 9 rfl [4] rfl (by decide)
                    have el26 := g26.keep _ _ nln el25
                    have wl26 := wl25.go g26 (line_to L23.lo)
                    walk_at "y"
                    refine x_sll el26 fun p27 H27 e27 n27 h27 => ?_
                    walk_at "y"
                    exact tail _ _ ⟨a, od, ls, lf2, lp2, p27, S, S, [], bk, [bk.page], o15, o16, rfl, L23.flushed g25 hd25 g26 f1 f2 hl26 el26 wl26 e27 n27 h27, by simp⟩
                  | false =>
                    refine x_ite0 (x_ifAny (fun br => ?_) (fun key => ?_))
                    · cases br with
                      | true =>
                        refine x_ite1 ?_
                        walk_at "y"
                        obtain ⟨vl, el, wl⟩ := L23.hl
                        refine ⟨b, d, dd, ln, ls, lf, lp, S, F, U, M, bk, line, vl, rfl, L23.bx, L23.dk, L23.ld, L23.ok, L23.iv, el, wl, L23.lo, nod_ne L23.nd 1 9 rfl rfl (by decide), nod_ne L23.nd 1 6 rfl rfl (by decide), nod_ne L23.nd 1 7 rfl rfl (by decide), nod_ne L23.nd 1 8 rfl rfl (by decide), fun x24 H24 a2 od2 ls2 lf2 lp2 S2 bk2 g24 hb24 h24 fa fo fs ff fp ok2 pg2 iv2 sy2 => ?_⟩
                        walk_at "y"
                        refine x_gtup h24 rfl ?_
                        obtain ⟨vo, eo, wo⟩ := id sy2.ow
                        walk_at "y"
                        refine x_kdgetK eo rfl ?_
                        walk_at "y"
                        refine x_mkl fun p25 H25 e25 n25 h25 => ?_
                        walk_at "y"
                        exact tail _ _ ⟨a2, od2, ls2, lf2, lp2, p25, S2, S2, [], bk2, [bk2.page], o15, _, rfl, L23.fallen g24 hb24 fa fo fs ff fp ok2 pg2 iv2 sy2 wo e25 n25 h25, by simp⟩
                      | false =>
                        refine x_ite0 ?_
                        walk_at "y"
                        obtain ⟨vo, eo, wo⟩ := id L23.ow
                        refine x_kdgetK eo rfl ?_
                        walk_at "y"
                        refine ⟨b, d, a, vo, bk.page, bk, S, F, U, M, rfl, L23.bx, L23.dk, L23.ok, L23.bo, L23.pg, L23.iv.hh, L23.last_lt, nod_ne L23.nd 3 2 rfl rfl (by decide), wo, L23.pg, L23.tb, fun H24 g24 t24 hb24 => ?_⟩
                        walk_at "y"
                        exact tail _ _ ⟨a, od, ls, lf, lp, ln, S, F, U, bk, line, o15, o16, rfl, L23.boxT g24 t24 hb24, Nat.le_succ_of_le hlen⟩
                    · walk_at "y"
                      exact key _
                · walk_at "y"
                  exact key _
            · walk_at "y"
              split
              · exact key _
              · walk_at "y"
                split
                · walk_at "y"
                  exact key _
                · exact key _
        · obtain ⟨a, od, ls, lf, lp, ln, S, F, U, bk, line, o13, o14, o15, o16, rfl, L22, hlen⟩ := p
          walk_at "y"
          refine ⟨d, a, dd, od, ls, lf, lp, bk, S, F, U, M, rfl, L22.dk, L22.bo, L22.ld, L22.ow, L22.ok, L22.pg, fun H23 e23 => ?_⟩
          have L23 := L22.ex e23
          obtain ⟨vl, el, wl⟩ := L23.hl
          walk_at "y"
          refine ⟨b, d, dd, ln, ls, lf, lp, S, F, U, M, bk, line, vl, rfl, L23.bx, L23.dk, L23.ld, L23.ok, L23.iv, el, wl, L23.lo, nod_ne L23.nd 1 9 rfl rfl (by decide), nod_ne L23.nd 1 6 rfl rfl (by decide), nod_ne L23.nd 1 7 rfl rfl (by decide), nod_ne L23.nd 1 8 rfl rfl (by decide), fun x24 H24 a2 od2 ls2 lf2 lp2 S2 bk2 g24 hb24 h24 fa fo fs ff fp ok2 pg2 iv2 sy2 => ?_⟩
          walk_at "y"
          refine x_gtup h24 rfl ?_
          walk_at "y"
          refine ⟨d, a2, dd, od2, ls2, lf2, lp2, bk2, S2, S2, [], M, rfl, sy2.dk, sy2.bo, sy2.ld, sy2.ow, ok2, pg2, fun H25 e25 => ?_⟩
          walk_at "y"
          have fl := L23.fell g24
          exact ⟨fl.1.ex e25, fl.2.ext e25, _, _, _, _, _, _, _, _, _, _, _, _, _, _, _, _, rfl⟩
      · cases hc : decide (((r20 : Nat) : Int) = 0) with
        | true =>
          refine x_ite1 (x_asg (x_tup (x_cons (x_c (x_cons (x_c (x_cons (x_c (x_nil ?_)))))))))
          refine x_mkr fun p21 H21 e21 n21 h21 => ?_
          refine x_gtup h21 rfl (x_gcons (x_name (x_gcons (x_name (x_gcons (x_name (x_gnil ?_)))))))
          exact tail _ _ ⟨1200, 1, 1, _, _, _, _, Nat.le_refl _, by decide, by decide, by decide, rfl, L20.ex e21⟩
        | false =>
          refine x_ite0 (x_next ?_)
          exact tail _ _ ⟨R, most, wide, _, _, _, _, hR, mo, w1, w2, rfl, L20⟩
    · obtain ⟨h1, t1, o1, o2, o3, o4, o5, o6, o7, o8, o9, o10, o11, o12, o13, o14, o15, o16, rfl⟩ := p
      walk_at "y"
      exact q H1
end
end Y
/-! part D0 -/
/-! What the written part says of defs, classes, errors. -/
namespace Y
open PySem LamX L2
section
variable {K : PySem.W.Frag} {x m qual : Str} {st : Stmt} {f C c Pt : Addr} {oc : Value} {od an : Option Addr} {osl : Array (Option Value)} {kV doc pm cdv ct : Value}
structure DefIn (K : PySem.W.Frag) (x : Str) (st : Stmt) : Prop where
  ex : ∃ f fd, PySem.W.nsIn K mainGlobals x = some (some (.ref f)) ∧ Fun K x x st f fd
structure DefT (K : PySem.W.Frag) (x : Str) (st : Stmt) (c Pt : Addr) : Prop where
  ex : ∃ f fd, PySem.W.nsIn K mainGlobals x = some (some (.ref f)) ∧ Fun K x x st f fd ∧ fd.code = .ref c ∧ PySem.W.codeHdIn K c Pt = true ∧ K.lookup Pt = none
structure MethIn (K : PySem.W.Frag) (C : Addr) (m qual : Str) (st : Stmt) : Prop where
  ex : ∃ f fd, Meth K C m f ∧ Fun K m qual st f fd
structure InitIn (K : PySem.W.Frag) (C : Addr) (qual : Str) (st : Stmt) : Prop where
  ex : ∃ f fd, Mk K C f ∧ Fun K "__init__" qual st f fd
theorem def_in (a : PySem.W.nsIn K mainGlobals x = some (some (.ref f))) (l : K.lookup f = some ⟨oc, od, .func (PySem.W.fnOf x x (defArgs st) (defBody st) (defScope st) .none kV doc pm an cdv ct), osl⟩) (c : PySem.W.codeIn K cdv x = true) (k : PySem.W.keepIn K (.ref f) = true) : DefIn K x st := ⟨f, _, a, fun_mk l c k⟩
theorem def_t (a : PySem.W.nsIn K mainGlobals x = some (some (.ref f))) (l : K.lookup f = some ⟨oc, od, .func (PySem.W.fnOf x x (defArgs st) (defBody st) (defScope st) .none kV doc pm an (.ref c) ct), osl⟩) (cc : PySem.W.codeIn K (.ref c) x = true) (k : PySem.W.keepIn K (.ref f) = true) (t : PySem.W.codeHdIn K c Pt = true) (n : K.lookup Pt = none) : DefT K x st c Pt := ⟨f, _, a, fun_mk l cc k, rfl, t, n⟩
theorem meth_in (a : PySem.W.findIn K (.ref C) m = some (some (.ref f))) (i : PySem.W.isFn K (.ref f) = true) (l : K.lookup f = some ⟨oc, od, .func (PySem.W.fnOf m qual (defArgs st) (defBody st) (defScope st) .none kV doc pm an cdv ct), osl⟩) (c : PySem.W.codeIn K cdv qual = true) (k : PySem.W.keepIn K (.ref f) = true) : MethIn K C m qual st := ⟨f, _, ⟨a, i, k⟩, fun_mk l c k⟩
theorem init_in (a : PySem.W.findIn K (.ref C) "__init__" = some (some (.ref f))) (i : PySem.W.isFn K (.ref f) = true) (l : K.lookup f = some ⟨oc, od, .func (PySem.W.fnOf "__init__" qual (defArgs st) (defBody st) (defScope st) .none kV doc pm an cdv ct), osl⟩) (c : PySem.W.codeIn K cdv qual = true) (k : PySem.W.keepIn K (.ref f) = true) (mk : PySem.W.makesIn K C = true) (kc : PySem.W.keepIn K (.ref C) = true) : InitIn K C qual st := ⟨f, _, ⟨mk, a, i, kc⟩, fun_mk l c k⟩
theorem triples0 : TriplesOk (#[] : Array Value).toList := by first | exact .nil | trivial | simp [TriplesOk]
theorem tabs0 {Pt : Addr} {H : Hp} (h : H Pt = some (.tbl #[])) : Tabs (tabT Pt) H := fun p hp => by
  have e := List.mem_singleton.mp (show p ∈ [_] from hp)
  rw [e]
  exact ⟨#[], h, triples0, fun pos cv hc => by cases hc⟩
end
theorem noattr_of {K : PySem.W.Frag} {C : Addr} {f : Str} (h : PySem.W.findIn K (.ref C) f = some none) : NoAttr K C f := h
section
open PySem.W PySem.ErX PySem.HandSPX
theorem err_mk {prog : Program} {K : Frag} {h : Heap} {mg : Str → Option Value} {nm : Str} {C fI cc cda : Addr} (X : K.In h) (G : h.Ns mainGlobals mg)
    {n q : Str} {N : Addr} {bs bm : List Value} {sn : List Str} {sub : List Value} {ab : Bool} {col : Option Bool} {dd : Option Addr} {k0 k1 k2 k3 k5 : Option Value}
    {qn : Str} {oc : Value} {od : Option Addr} {doc pm : Value} {an : Option Addr} {ct : Value} {osl : Array (Option Value)} {msg : Str} {p1 p2 q1 q2 q3 q4 q5 q6 r1 r2 r3 r4 : Pos} {kk : Nat}
    {cl : Value} {cld : Option Addr} {csl : Array (Option Value)} {ccl : Value} {cdd : Option Addr} {vs : Array Value} {ccs : Array (Option Value)} {file : Str} {tf : Tok}
    (a1 : nsIn K mainGlobals nm = some (some (.ref C))) (a2 : K.lookup C = some (excClassObj n q C N bs bm true sn sub ab col dd k0 k1 k2 k3 k5 "ValueError.__new__")) (a3 : refsVE bm = true)
    (a4 : findIn K (.ref C) "__setattr__" = some (some (.builtin "object.__setattr__"))) (a5 : findIn K (.ref C) "__getattribute__" = some (some (.builtin "BaseException.__getattribute__"))) (a6 : findIn K (.ref C) "__getattr__" = some none)
    (a7 : findIn K (.ref C) "at" = some none) (a8 : findIn K (.ref C) "__init__" = some (some (.ref fI))) (a9 : typeIn K (.ref fI) = some (.type "function")) (b1 : keepIn K (.ref C) = true) (b2 : subIn K (.ref C) (.type "BaseException") = some true)
    (b3 : subIn K (.ref C) (.type "ValueError") = some true) (b4 : typeIn K (.ref C) = some (.type "type")) (b5 : hasDictIn K C = true)
    (c1 : K.lookup fI = some ⟨oc, od, .func (ksFn "__init__" qn (iA p1 p2) (iB msg q1 q2 q3 q4 q5 q6 r1 r2 r3 r4 kk) iS .none .none doc pm an (.ref cda) ct cc), osl⟩) (c2 : codeIn K (.ref cda) qn = true) (c3 : HeOk msg q1 q2 q3 q4 q5 kk)
    (c4 : K.lookup cc = some ⟨cl, cld, .cell (some (.ref C)), csl⟩) (c5 : K.lookup cda = some ⟨ccl, cdd, .fields vs, ccs⟩) (c6 : vs[2]? = some (.str file tf)) (c7 : ((prog.main.file : Str) == file) = true)
    (b6 : ks_superIn K C C "__init__" = some (some (.builtin "ValueError.__init__"))) (b7 : mroIn K C (.ref C) = some true) (b8 : nsIn K mainGlobals "super" = some none) (b9 : nsIn K cStatics "thirdparty.any" = some none)
    (c8 : (prog.main.scope.names.lookup ("super" : Str)).isSome = false) : ErrTxt prog K mg nm C fI cc cda where
  gC := mg_of X G a1
  cls := ⟨n, q, N, bs, bm, sn, sub, ab, col, dd, k0, k1, k2, k3, k5, a2, a3⟩
  sa := a4
  ga := a5
  gg := a6
  noN := a7
  iC := a8
  tC := a9
  kC := b1
  exC := b2
  veC := b3
  tyC := b4
  hdC := b5
  suC := b6
  me := b7
  ns := b8
  no := b9
  fn := ⟨qn, oc, od, doc, pm, an, ct, osl, msg, p1, p2, q1, q2, q3, q4, q5, q6, r1, r2, r3, r4, kk, c1, c2, c3⟩
  cell := ⟨cl, cld, csl, c4⟩
  code := ⟨ccl, cdd, vs, ccs, file, tf, c5, c6, c7⟩
  top := c8
end
theorem exk_mk {K : PySem.W.Frag} {h : Heap} {mg : Str → Option Value} {cD cP m : Addr} (X : K.In h) (G : h.Ns mainGlobals mg) (e : PySem.W.nsIn K mainGlobals "MapsError" = some (some (.ref m))) (a : PySem.W.exmOne K (.ref cP) (.ref cP) = some true) (b : PySem.W.exmOne K (.ref cD) (.ref cP) = some false) (c : PySem.W.exmOne K (.ref cD) (.ref cD) = some true) : ExK K mg cD cP := ⟨a, b, c, m, PySem.W.mg_of X G e⟩
end Y
/-! part D1 -/
/-! The law's promise, from what the written part says. -/
namespace Y
open PySem LamX L2
theorem law_at {l : PySem.W.OpenLaw} {w : World} {K : PySem.W.Frag} {h : Heap} {mg : Str → Option Value} {fa CB CD c Pt : Addr} {t1 t2 : Tok} (X : K.In h) (G : h.Ns mainGlobals mg) (hfa : mg "law" = some (.ref fa)) (hP : h.get? Pt = some { cls := .none, data := .fields #[] })
    (d_is_number : DefIn K "is_number" s_is_number) (d_is_row : DefIn K "is_row" s_is_row) (d_lot_within : DefIn K "lot_within" s_lot_within)
    (d_is_size : DefIn K "is_size" s_is_size) (d_is_plain : DefIn K "is_plain" s_is_plain) (d_is_key : DefIn K "is_key" s_is_key)
    (d_is_page : DefIn K "is_page" s_is_page) (d_laid_over : DefIn K "laid_over" s_laid_over) (d_is_entry : DefIn K "is_entry" s_is_entry)
    (d_are_slots : DefIn K "are_slots" s_are_slots) (d_read_half : DefIn K "read_half" s_read_half) (d_read_back : DefIn K "read_back" s_read_back)
    (d_box : DefIn K "_law_box" s_box) (d_take : DefIn K "_law_take" s_take) (d_pick : DefIn K "_law_pick" s_pick)
    (d_same : DefIn K "_law_same" s_same) (d_key : DefIn K "_law_key" s_key) (d_value : DefIn K "_law_value" s_value)
    (d_row : DefIn K "_law_row" s_row) (d_no_page : DefIn K "_law_no_page" s_no_page) (d_over : DefIn K "_law_over" s_over)
    (d_half : DefIn K "_law_half" s_half) (d_read : DefIn K "_law_read" s_read) (d_disk : DefIn K "_law_disk" s_disk)
    (d_put : DefIn K "_law_put" s_put) (d_safe : DefIn K "_law_safe" s_safe) (d_cut : DefIn K "_law_cut" s_cut)
    (d_book : DefIn K "_law_book" s_book) (d_add : DefIn K "_law_add" s_add) (d_heard : DefIn K "_law_heard" s_heard)
    (d_some : DefIn K "_law_some" s_some) (d_stands : DefIn K "_law_stands" s_stands) (d_fallen : DefIn K "_law_fallen" s_fallen)
    (d_law : DefIn K "law" s_law) (d_refused : DefT K "_law_refused" s_refused c Pt) (m_Disk_put : MethIn K CD "put" "Disk.put" s_Disk_put)
    (m_Disk_flush : MethIn K CD "flush" "Disk.flush" s_Disk_flush) (m_Disk_fall : MethIn K CD "fall" "Disk.fall" s_Disk_fall) (m_Journal_put_entry : MethIn K CB "put_entry" "Journal.put_entry" s_Journal_put_entry)
    (m_Journal_add_row : MethIn K CB "add_row" "Journal.add_row" s_Journal_add_row) (i_Disk : InitIn K CD "Disk.__init__" s_Disk___init__) (i_Journal : InitIn K CB "Journal.__init__" s_Journal___init__)
    (gD : PySem.W.nsIn K mainGlobals "Disk" = some (some (.ref CD))) (gB : PySem.W.nsIn K mainGlobals "Journal" = some (some (.ref CB))) (D : DiskC K CD) (B : BookC K CB) (I : IsD K CD CB) (ER : Ers l.prog K mg) (EK : ExK K mg ER.cD ER.cP) (z1 : PySem.W.nsIn K mainGlobals "LEAST_SLOTS" = some (some (.int 4 t1))) (z2 : PySem.W.nsIn K mainGlobals "MOST_SLOTS" = some (some (.int 64 t2))) (z_isinstance : PySem.W.nsIn K mainGlobals "isinstance" = some none)
    (z_len : PySem.W.nsIn K mainGlobals "len" = some none) (z_tuple : PySem.W.nsIn K mainGlobals "tuple" = some none) (z_list : PySem.W.nsIn K mainGlobals "list" = some none)
    (z_int : PySem.W.nsIn K mainGlobals "int" = some none) (z_str : PySem.W.nsIn K mainGlobals "str" = some none) (z_bool : PySem.W.nsIn K mainGlobals "bool" = some none)
    (z_all : PySem.W.nsIn K mainGlobals "all" = some none) (z_max : PySem.W.nsIn K mainGlobals "max" = some none) (z_range : PySem.W.nsIn K mainGlobals "range" = some none)
    (z_sorted : PySem.W.nsIn K mainGlobals "sorted" = some none) (z_abs : PySem.W.nsIn K mainGlobals "abs" = some none) :
    LawAtS l w K (L2.CX l.prog w) 13 63 "script" mg fa h := by
  obtain ⟨f_is_number, e_is_number, n_is_number, F_is_number⟩ := d_is_number.ex
  have h_is_number := PySem.W.mg_of X G n_is_number
  have b_is_number := F_is_number.binds (ps := ["value"]) fun _ _ _ _ _ _ us hl => match us, hl with | [_], _ => rfl
  obtain ⟨f_is_row, e_is_row, n_is_row, F_is_row⟩ := d_is_row.ex
  have h_is_row := PySem.W.mg_of X G n_is_row
  have b_is_row := F_is_row.binds (ps := ["value"]) fun _ _ _ _ _ _ us hl => match us, hl with | [_], _ => rfl
  obtain ⟨f_lot_within, e_lot_within, n_lot_within, F_lot_within⟩ := d_lot_within.ex
  have h_lot_within := PySem.W.mg_of X G n_lot_within
  have b_lot_within := F_lot_within.binds (ps := ["value", "many"]) fun _ _ _ _ _ _ us hl => match us, hl with | [_, _], _ => rfl
  obtain ⟨f_is_size, e_is_size, n_is_size, F_is_size⟩ := d_is_size.ex
  have h_is_size := PySem.W.mg_of X G n_is_size
  have b_is_size := F_is_size.binds (ps := ["value"]) fun _ _ _ _ _ _ us hl => match us, hl with | [_], _ => rfl
  obtain ⟨f_is_plain, e_is_plain, n_is_plain, F_is_plain⟩ := d_is_plain.ex
  have h_is_plain := PySem.W.mg_of X G n_is_plain
  have b_is_plain := F_is_plain.binds (ps := ["value"]) fun _ _ _ _ _ _ us hl => match us, hl with | [_], _ => rfl
  obtain ⟨f_is_key, e_is_key, n_is_key, F_is_key⟩ := d_is_key.ex
  have h_is_key := PySem.W.mg_of X G n_is_key
  have b_is_key := F_is_key.binds (ps := ["value"]) fun _ _ _ _ _ _ us hl => match us, hl with | [_], _ => rfl
  obtain ⟨f_is_page, e_is_page, n_is_page, F_is_page⟩ := d_is_page.ex
  have h_is_page := PySem.W.mg_of X G n_is_page
  have b_is_page := F_is_page.binds (ps := ["value"]) fun _ _ _ _ _ _ us hl => match us, hl with | [_], _ => rfl
  obtain ⟨f_laid_over, e_laid_over, n_laid_over, F_laid_over⟩ := d_laid_over.ex
  have h_laid_over := PySem.W.mg_of X G n_laid_over
  have b_laid_over := F_laid_over.binds (ps := ["page", "row"]) fun _ _ _ _ _ _ us hl => match us, hl with | [_, _], _ => rfl
  obtain ⟨f_is_entry, e_is_entry, n_is_entry, F_is_entry⟩ := d_is_entry.ex
  have h_is_entry := PySem.W.mg_of X G n_is_entry
  have b_is_entry := F_is_entry.binds (ps := ["value"]) fun _ _ _ _ _ _ us hl => match us, hl with | [_], _ => rfl
  obtain ⟨f_are_slots, e_are_slots, n_are_slots, F_are_slots⟩ := d_are_slots.ex
  have h_are_slots := PySem.W.mg_of X G n_are_slots
  have b_are_slots := F_are_slots.binds (ps := ["value"]) fun _ _ _ _ _ _ us hl => match us, hl with | [_], _ => rfl
  obtain ⟨f_read_half, e_read_half, n_read_half, F_read_half⟩ := d_read_half.ex
  have h_read_half := PySem.W.mg_of X G n_read_half
  have b_read_half := F_read_half.binds (ps := ["slots", "half"]) fun _ _ _ _ _ _ us hl => match us, hl with | [_, _], _ => rfl
  obtain ⟨f_read_back, e_read_back, n_read_back, F_read_back⟩ := d_read_back.ex
  have h_read_back := PySem.W.mg_of X G n_read_back
  have b_read_back := F_read_back.binds (ps := ["slots"]) fun _ _ _ _ _ _ us hl => match us, hl with | [_], _ => rfl
  obtain ⟨f_box, e_box, n_box, F_box⟩ := d_box.ex
  have h_box := PySem.W.mg_of X G n_box
  have b_box := F_box.binds (ps := ["script", "k"]) fun _ _ _ _ _ _ us hl => match us, hl with | [_, _], _ => rfl
  obtain ⟨f_take, e_take, n_take, F_take⟩ := d_take.ex
  have h_take := PySem.W.mg_of X G n_take
  have b_take := F_take.binds (ps := ["box", "many"]) fun _ _ _ _ _ _ us hl => match us, hl with | [_, _], _ => rfl
  obtain ⟨f_pick, e_pick, n_pick, F_pick⟩ := d_pick.ex
  have h_pick := PySem.W.mg_of X G n_pick
  have b_pick := F_pick.binds (ps := ["box", "some"]) fun _ _ _ _ _ _ us hl => match us, hl with | [_, _], _ => rfl
  obtain ⟨f_same, e_same, n_same, F_same⟩ := d_same.ex
  have h_same := PySem.W.mg_of X G n_same
  have b_same := F_same.binds (ps := ["one", "other"]) fun _ _ _ _ _ _ us hl => match us, hl with | [_, _], _ => rfl
  obtain ⟨f_key, e_key, n_key, F_key⟩ := d_key.ex
  have h_key := PySem.W.mg_of X G n_key
  have b_key := F_key.binds (ps := ["box", "wide"]) fun _ _ _ _ _ _ us hl => match us, hl with | [_, _], _ => rfl
  obtain ⟨f_value, e_value, n_value, F_value⟩ := d_value.ex
  have h_value := PySem.W.mg_of X G n_value
  have b_value := F_value.binds (ps := ["box"]) fun _ _ _ _ _ _ us hl => match us, hl with | [_], _ => rfl
  obtain ⟨f_row, e_row, n_row, F_row⟩ := d_row.ex
  have h_row := PySem.W.mg_of X G n_row
  have b_row := F_row.binds (ps := ["box", "most", "wide"]) fun _ _ _ _ _ _ us hl => match us, hl with | [_, _, _], _ => rfl
  obtain ⟨f_no_page, e_no_page, n_no_page, F_no_page⟩ := d_no_page.ex
  have h_no_page := PySem.W.mg_of X G n_no_page
  have b_no_page := F_no_page.binds (ps := ["box", "page", "thing"]) fun _ _ _ _ _ _ us hl => match us, hl with | [_, _, _], _ => rfl
  obtain ⟨f_over, e_over, n_over, F_over⟩ := d_over.ex
  have h_over := PySem.W.mg_of X G n_over
  have b_over := F_over.binds (ps := ["page", "row"]) fun _ _ _ _ _ _ us hl => match us, hl with | [_, _], _ => rfl
  obtain ⟨f_half, e_half, n_half, F_half⟩ := d_half.ex
  have h_half := PySem.W.mg_of X G n_half
  have b_half := F_half.binds (ps := ["slots", "half"]) fun _ _ _ _ _ _ us hl => match us, hl with | [_, _], _ => rfl
  obtain ⟨f_read, e_read, n_read, F_read⟩ := d_read.ex
  have h_read := PySem.W.mg_of X G n_read
  have b_read := F_read.binds (ps := ["slots"]) fun _ _ _ _ _ _ us hl => match us, hl with | [_], _ => rfl
  obtain ⟨f_disk, e_disk, n_disk, F_disk⟩ := d_disk.ex
  have h_disk := PySem.W.mg_of X G n_disk
  have b_disk := F_disk.binds (ps := ["many"]) fun _ _ _ _ _ _ us hl => match us, hl with | [_], _ => rfl
  obtain ⟨f_put, e_put, n_put, F_put⟩ := d_put.ex
  have h_put := PySem.W.mg_of X G n_put
  have b_put := F_put.binds (ps := ["disk", "slot", "entry"]) fun _ _ _ _ _ _ us hl => match us, hl with | [_, _, _], _ => rfl
  obtain ⟨f_safe, e_safe, n_safe, F_safe⟩ := d_safe.ex
  have h_safe := PySem.W.mg_of X G n_safe
  have b_safe := F_safe.binds (ps := ["disk"]) fun _ _ _ _ _ _ us hl => match us, hl with | [_], _ => rfl
  obtain ⟨f_cut, e_cut, n_cut, F_cut⟩ := d_cut.ex
  have h_cut := PySem.W.mg_of X G n_cut
  have b_cut := F_cut.binds (ps := ["disk", "kept"]) fun _ _ _ _ _ _ us hl => match us, hl with | [_, _], _ => rfl
  obtain ⟨f_book, e_book, n_book, F_book⟩ := d_book.ex
  have h_book := PySem.W.mg_of X G n_book
  have b_book := F_book.binds (ps := ["disk", "first"]) fun _ _ _ _ _ _ us hl => match us, hl with | [_, _], _ => rfl
  obtain ⟨f_add, e_add, n_add, F_add⟩ := d_add.ex
  have h_add := PySem.W.mg_of X G n_add
  have b_add := F_add.binds (ps := ["disk", "book", "row"]) fun _ _ _ _ _ _ us hl => match us, hl with | [_, _, _], _ => rfl
  obtain ⟨f_heard, e_heard, n_heard, F_heard⟩ := d_heard.ex
  have h_heard := PySem.W.mg_of X G n_heard
  have b_heard := F_heard.binds (ps := ["work"]) fun _ _ _ _ _ _ us hl => match us, hl with | [_], _ => rfl
  obtain ⟨f_some, e_some, n_some, F_some⟩ := d_some.ex
  have h_some := PySem.W.mg_of X G n_some
  have b_some := F_some.binds (ps := ["box", "many"]) fun _ _ _ _ _ _ us hl => match us, hl with | [_, _], _ => rfl
  obtain ⟨f_stands, e_stands, n_stands, F_stands⟩ := d_stands.ex
  have h_stands := PySem.W.mg_of X G n_stands
  have b_stands := F_stands.binds (ps := ["disk", "book", "slots", "own"]) fun _ _ _ _ _ _ us hl => match us, hl with | [_, _, _, _], _ => rfl
  obtain ⟨f_fallen, e_fallen, n_fallen, F_fallen⟩ := d_fallen.ex
  have h_fallen := PySem.W.mg_of X G n_fallen
  have b_fallen := F_fallen.binds (ps := ["box", "disk", "slots", "line"]) fun _ _ _ _ _ _ us hl => match us, hl with | [_, _, _, _], _ => rfl
  obtain ⟨f_law, e_law, n_law, F_law⟩ := d_law.ex
  have h_law := PySem.W.mg_of X G n_law
  have b_law := F_law.binds (ps := ["script"]) fun _ _ _ _ _ _ us hl => match us, hl with | [_], _ => rfl
  obtain ⟨f_refused, e_refused, n_refused, F_refused, hcd, ht, nP⟩ := d_refused.ex
  have h_refused := PySem.W.mg_of X G n_refused
  have b_refused := F_refused.binds (ps := ["box", "disk", "book", "page"]) fun _ _ _ _ _ _ us hl => match us, hl with | [_, _, _, _], _ => rfl
  obtain ⟨f_Disk_put, e_Disk_put, M_Disk_put, F_Disk_put⟩ := m_Disk_put.ex
  have b_Disk_put := F_Disk_put.binds (ps := ["self", "slot", "entry"]) fun _ _ _ _ _ _ us hl => match us, hl with | [_, _, _], _ => rfl
  obtain ⟨f_Disk_flush, e_Disk_flush, M_Disk_flush, F_Disk_flush⟩ := m_Disk_flush.ex
  have b_Disk_flush := F_Disk_flush.binds (ps := ["self"]) fun _ _ _ _ _ _ us hl => match us, hl with | [_], _ => rfl
  obtain ⟨f_Disk_fall, e_Disk_fall, M_Disk_fall, F_Disk_fall⟩ := m_Disk_fall.ex
  have b_Disk_fall := F_Disk_fall.binds (ps := ["self", "kept"]) fun _ _ _ _ _ _ us hl => match us, hl with | [_, _], _ => rfl
  obtain ⟨f_Journal_put_entry, e_Journal_put_entry, M_Journal_put_entry, F_Journal_put_entry⟩ := m_Journal_put_entry.ex
  have b_Journal_put_entry := F_Journal_put_entry.binds (ps := ["self", "thing"]) fun _ _ _ _ _ _ us hl => match us, hl with | [_, _], _ => rfl
  obtain ⟨f_Journal_add_row, e_Journal_add_row, M_Journal_add_row, F_Journal_add_row⟩ := m_Journal_add_row.ex
  have b_Journal_add_row := F_Journal_add_row.binds (ps := ["self", "row"]) fun _ _ _ _ _ _ us hl => match us, hl with | [_, _], _ => rfl
  obtain ⟨f_Disk, e_Disk, M_Disk, F_Disk⟩ := i_Disk.ex
  have b_Disk := F_Disk.binds (ps := ["self", "many"]) fun _ _ _ _ _ _ us hl => match us, hl with | [_, _], _ => rfl
  obtain ⟨f_Journal, e_Journal, M_Journal, F_Journal⟩ := i_Journal.ex
  have b_Journal := F_Journal.binds (ps := ["self", "disk", "first"]) fun _ _ _ _ _ _ us hl => match us, hl with | [_, _, _], _ => rfl
  have T : Bt mg := ⟨PySem.W.mg_none_of X G z_isinstance, PySem.W.mg_none_of X G z_len, PySem.W.mg_none_of X G z_tuple, PySem.W.mg_none_of X G z_list, PySem.W.mg_none_of X G z_int, PySem.W.mg_none_of X G z_str, PySem.W.mg_none_of X G z_bool, PySem.W.mg_none_of X G z_all, PySem.W.mg_none_of X G z_max, PySem.W.mg_none_of X G z_range, PySem.W.mg_none_of X G z_sorted, PySem.W.mg_none_of X G z_abs, ⟨_, PySem.W.mg_of X G z1⟩, ⟨_, PySem.W.mg_of X G z2⟩⟩
  have hD := PySem.W.mg_of X G gD
  have hB := PySem.W.mg_of X G gB
  have hlaw : f_law = fa := by have := h_law.symm.trans hfa; cases this; rfl
  subst hlaw
  refine ⟨e_law, [(c, Pt)], spLaw K Pt, fun p hp => ?_, fun p hp => ?_, fun p hp => ?_, fun s u => ?_, fun H a ns hl hb hT hS => ?_, fun base hK hN hTB => ?_⟩
  · rw [List.mem_singleton.mp hp]; exact hP
  · rw [List.mem_singleton.mp hp]; exact nP
  · rw [List.mem_singleton.mp hp]; exact PySem.W.codeHd_of_K X ht
  · obtain ⟨oc, od, kV, doc, pm, an, cdv, ct, osl, rfl, lk, hc⟩ := F_law.ex
    exact .of_eq rfl
  · exact ⟨a, ns, rfl, hS, tabs0 (hT _ (List.mem_singleton.mpr rfl)), fun _ => rfl⟩
  · have TB : TabB base mg c Pt := hTB _ (List.mem_singleton.mpr rfl)
    have c_is_number := ok_is_number (P := l.prog) (w := w) (mg := mg) (base := base) F_is_number h_is_number b_is_number T
    have c_is_row := ok_is_row (P := l.prog) (w := w) (mg := mg) (base := base) F_is_row h_is_row b_is_row T
    have c_lot_within := ok_lot_within (P := l.prog) (w := w) (mg := mg) (base := base) F_lot_within h_lot_within b_lot_within T c_is_number c_is_row
    have c_is_size := ok_is_size (P := l.prog) (w := w) (mg := mg) (base := base) F_is_size h_is_size b_is_size T c_is_number
    have cDisk := mk_Disk (P := l.prog) (w := w) (mg := mg) (base := base) M_Disk D F_Disk hD b_Disk T c_is_size
    have m_Disk_put := ok_put (P := l.prog) (w := w) (mg := mg) (base := base) D M_Disk_put F_Disk_put b_Disk_put T c_is_number
    have m_Disk_flush := ok_flush (P := l.prog) (w := w) (mg := mg) (base := base) D M_Disk_flush F_Disk_flush b_Disk_flush 
    have m_Disk_fall := ok_fall (P := l.prog) (w := w) (mg := mg) (base := base) D M_Disk_fall F_Disk_fall b_Disk_fall T c_lot_within
    have c_is_plain := ok_is_plain (P := l.prog) (w := w) (mg := mg) (base := base) F_is_plain h_is_plain b_is_plain T
    have c_is_key := ok_is_key (P := l.prog) (w := w) (mg := mg) (base := base) F_is_key h_is_key b_is_key T c_is_number
    have c_is_page := ok_is_page (P := l.prog) (w := w) (mg := mg) (base := base) F_is_page h_is_page b_is_page T c_is_key c_is_plain
    have c_laid_over := ok_laid_over (P := l.prog) (w := w) (mg := mg) (base := base) F_laid_over h_laid_over b_laid_over T
    have c_is_entry := ok_is_entry (P := l.prog) (w := w) (mg := mg) (base := base) F_is_entry h_is_entry b_is_entry T c_is_number c_is_page
    have c_are_slots := ok_are_slots (P := l.prog) (w := w) (mg := mg) (base := base) F_are_slots h_are_slots b_are_slots T c_is_row c_is_size c_is_entry
    have c_read_half := ok_read_half (P := l.prog) (w := w) (mg := mg) (base := base) F_read_half h_read_half b_read_half T c_laid_over
    have c_read_back := ok_read_back (P := l.prog) (w := w) (mg := mg) (base := base) F_read_back h_read_back b_read_back T c_are_slots c_read_half
    have m_Journal_put_entry := ok_put_entry (P := l.prog) (w := w) (mg := mg) (base := base) B D M_Journal_put_entry F_Journal_put_entry b_Journal_put_entry T m_Disk_put
    have m_Journal_add_row := ok_add_row (P := l.prog) (w := w) (mg := mg) (base := base) ER B D M_Journal_add_row F_Journal_add_row b_Journal_add_row T c_is_page c_laid_over m_Journal_put_entry m_Disk_flush
    have cJournal := mk_Journal (P := l.prog) (w := w) (mg := mg) (base := base) ER M_Journal B D I F_Journal hB hD b_Journal T c_are_slots c_is_page c_read_back m_Journal_put_entry m_Disk_flush
    have c_take := ok_take (P := l.prog) (w := w) (mg := mg) (base := base) F_take h_take b_take T
    have c_pick := ok_pick (P := l.prog) (w := w) (mg := mg) (base := base) F_pick h_pick b_pick T c_take
    have c_box := ok_box (P := l.prog) (w := w) (mg := mg) (base := base) F_box h_box b_box T
    have c_same := ok_same (P := l.prog) (w := w) (mg := mg) (base := base) F_same h_same b_same T 10
    have c_key := ok_key (P := l.prog) (w := w) (mg := mg) (base := base) F_key h_key b_key T c_take c_pick
    have c_value := ok_value (P := l.prog) (w := w) (mg := mg) (base := base) F_value h_value b_value T c_take c_pick
    have c_row := ok_row (P := l.prog) (w := w) (mg := mg) (base := base) F_row h_row b_row T c_take c_key c_value
    have c_over := ok_over (P := l.prog) (w := w) (mg := mg) (base := base) F_over h_over b_over T
    have c_half := ok_half (P := l.prog) (w := w) (mg := mg) (base := base) F_half h_half b_half T c_over
    have c_read := ok_read (P := l.prog) (w := w) (mg := mg) (base := base) F_read h_read b_read T c_half
    have c_put := ok_putL (P := l.prog) (w := w) (mg := mg) (base := base) F_put h_put b_put T
    have c_safe := ok_safe (P := l.prog) (w := w) (mg := mg) (base := base) F_safe h_safe b_safe T
    have c_disk := ok_disk (P := l.prog) (w := w) (mg := mg) (base := base) F_disk h_disk b_disk T
    have c_cut := ok_cut (P := l.prog) (w := w) (mg := mg) (base := base) F_cut h_cut b_cut T
    have c_book := ok_book (P := l.prog) (w := w) (mg := mg) (base := base) F_book h_book b_book T c_read c_put c_safe
    have c_add := ok_add (P := l.prog) (w := w) (mg := mg) (base := base) F_add h_add b_add T c_over c_put c_safe
    have c_some := ok_some (P := l.prog) (w := w) (mg := mg) (base := base) F_some h_some b_some T c_take
    have c_stands := ok_stands (P := l.prog) (w := w) (mg := mg) (base := base) B D F_stands h_stands b_stands T c_same
    have c_no_page := ok_no_page (P := l.prog) (w := w) (mg := mg) (base := base) F_no_page h_no_page b_no_page T c_pick
    have c_refused := ok_refused (P := l.prog) (w := w) (mg := mg) (base := base) ER EK B D I F_refused hcd TB h_refused b_refused T F_heard h_heard b_heard c_take c_pick c_no_page c_same cDisk m_Disk_put cJournal m_Journal_add_row
    have c_fallen := ok_fallen (P := l.prog) (w := w) (mg := mg) (base := base) ER B D F_fallen h_fallen b_fallen T c_some c_pick m_Disk_fall c_cut c_book c_row cJournal c_same
    have c_law := ok_law (P := l.prog) (w := w) (mg := mg) (base := base) ER B D F_law h_law b_law T c_box c_take c_pick c_row c_disk c_book c_add c_safe c_fallen c_refused c_stands cDisk cJournal m_Journal_add_row m_Disk_flush
    exact c_law
end Y
/-! part Z1 -/
namespace Y
open PySem LamX L2
theorem cx_no (P : Program) (w : World) (H : Hp) (s : Shared) (e : Value) (s' : Shared) (h : L2.CX P w [] H s (fun _ _ _ => False) e s') : False := by
  obtain ⟨_, _, _, _, _, _, _, _, _, _, _, _, z⟩ := h
  exact z
end Y
open PySem PySem.W PyProof.Rows
local macro_rules | `(tactic| walk_at "fact") => `(tactic| first | k_is | kernel_rfl | rfl | decide +kernel)
local macro_rules | `(tactic| walk_at "def") => `(tactic| (refine' Y.def_in ?a ?l ?c ?k; (case a => k_is); (case l => k_is); (case c => k_is); (case k => k_is)))
local macro_rules | `(tactic| walk_at "meth") => `(tactic| (refine' Y.meth_in ?a ?i ?l ?c ?k; (case a => k_is); (case i => k_is); (case l => k_is); (case c => k_is); (case k => k_is)))
local macro_rules | `(tactic| walk_at "init") => `(tactic| (refine' Y.init_in ?a ?i ?l ?c ?k ?m ?kc; (case a => k_is); (case i => k_is); (case l => k_is); (case c => k_is); (case k => k_is); (case m => k_is); (case kc => k_is)))
local macro_rules | `(tactic| walk_at "cls") => `(tactic| (refine' ⟨?a, ?b, ?c, ?d⟩; (case a => k_is); (case b => k_is); (case c => k_is); (case d => k_is)))
local macro_rules | `(tactic| walk_at "ins") => `(tactic| (refine' ⟨?cl, ?ha, ?hn, ?ht, ?hm, ?t1, ?t2, ?t3, ?t4, ?t5⟩; (case cl => walk_at "cls"); (case ha => k_is); (case hn => k_is); (case ht => k_is); (case hm => k_is); (case t1 => walk_at "fact"); (case t2 => walk_at "fact"); (case t3 => walk_at "fact"); (case t4 => walk_at "fact"); (case t5 => walk_at "fact")))
local macro_rules | `(tactic| walk_at "err") => `(tactic| (refine' Y.err_mk (by assumption) (by assumption) ?a1 ?a2 ?a3 ?a4 ?a5 ?a6 ?a7 ?a8 ?a9 ?b1 ?b2 ?b3 ?b4 ?b5 ?c1 ?c2 ?c3 ?c4 ?c5 ?c6 ?c7 ?b6 ?b7 ?b8 ?b9 ?c8; (case a1 => k_is); (case a2 => k_is); (case a3 => walk_at "fact"); (case a4 => k_is); (case a5 => k_is); (case a6 => k_is); (case a7 => k_is); (case a8 => k_is); (case a9 => k_is); (case b1 => k_is); (case b2 => k_is); (case b3 => k_is); (case b4 => k_is); (case b5 => k_is); (case c1 => k_is); (case c2 => k_is); (case c3 => exact ⟨_, fun _ => rfl⟩); (case c4 => k_is); (case c5 => k_is); (case c6 => exact rfl); (case c7 => walk_at "fact"); (case b6 => walk_at "fact"); (case b7 => k_is); (case b8 => k_is); (case b9 => k_is); (case c8 => walk_at "fact")))
set_option maxHeartbeats 0 in
theorem PySem.Challenge.cw_mapsapart_k65_whole_journals_on_disks_cu_holds : PySem.Challenge.rw_mapsapart_k65_whole_journals_on_disks_cu.Holds := by
  w_on; o_law; k_head; (case hw => w_witness2)
  k_fill
  refine LamX.walk_ofTs (l := PySem.Challenge.rw_mapsapart_k65_whole_journals_on_disks_cu) (n := 63) (k := 13) (x := "script") (CX := fun w => L2.CX (PySem.Challenge.rw_mapsapart_k65_whole_journals_on_disks_cu).prog w) rfl (by decide) rfl ⟨rfl, by decide, by decide⟩ (fun w h Y => PySem.W.km_in_of Y) ?F (fun w H s e s' h => Y.cx_no _ _ _ _ _ _ h)
  case F =>
    intro w mg fa h YY KX G hmg
    have hP := PySem.W.km_tabs_of YY _ (List.mem_cons_self ..)
    refine' Y.law_at KX G hmg hP ?d_is_number ?d_is_row ?d_lot_within ?d_is_size ?d_is_plain ?d_is_key ?d_is_page ?d_laid_over ?d_is_entry ?d_are_slots ?d_read_half ?d_read_back ?d_box ?d_take ?d_pick ?d_same ?d_key ?d_value ?d_row ?d_no_page ?d_over ?d_half ?d_read ?d_disk ?d_put ?d_safe ?d_cut ?d_book ?d_add ?d_heard ?d_some ?d_stands ?d_fallen ?d_law ?d_refused ?m_Disk_put ?m_Disk_flush ?m_Disk_fall ?m_Journal_put_entry ?m_Journal_add_row ?i_Disk ?i_Journal ?gD ?gB ?D ?B ?I ?ER ?EK ?z1 ?z2 ?z_isinstance ?z_len ?z_tuple ?z_list ?z_int ?z_str ?z_bool ?z_all ?z_max ?z_range ?z_sorted ?z_abs
    (case gD => k_is)
    (case gB => k_is)
    (case d_is_number => walk_at "def")
    (case d_is_row => walk_at "def")
    (case d_lot_within => walk_at "def")
    (case d_is_size => walk_at "def")
    (case d_is_plain => walk_at "def")
    (case d_is_key => walk_at "def")
    (case d_is_page => walk_at "def")
    (case d_laid_over => walk_at "def")
    (case d_is_entry => walk_at "def")
    (case d_are_slots => walk_at "def")
    (case d_read_half => walk_at "def")
    (case d_read_back => walk_at "def")
    (case d_box => walk_at "def")
    (case d_take => walk_at "def")
    (case d_pick => walk_at "def")
    (case d_same => walk_at "def")
    (case d_key => walk_at "def")
    (case d_value => walk_at "def")
    (case d_row => walk_at "def")
    (case d_no_page => walk_at "def")
    (case d_over => walk_at "def")
    (case d_half => walk_at "def")
    (case d_read => walk_at "def")
    (case d_disk => walk_at "def")
    (case d_put => walk_at "def")
    (case d_safe => walk_at "def")
    (case d_cut => walk_at "def")
    (case d_book => walk_at "def")
    (case d_add => walk_at "def")
    (case d_heard => walk_at "def")
    (case d_some => walk_at "def")
    (case d_stands => walk_at "def")
    (case d_fallen => walk_at "def")
    (case d_law => walk_at "def")
    (case d_refused => (refine' Y.def_t ?a ?l ?c ?k ?t ?n; (case a => k_is); (case l => k_is); (case c => k_is); (case k => k_is); (case t => walk_at "fact"); (case n => walk_at "fact")))
    (case m_Disk_put => walk_at "meth")
    (case m_Disk_flush => walk_at "meth")
    (case m_Disk_fall => walk_at "meth")
    (case m_Journal_put_entry => walk_at "meth")
    (case m_Journal_add_row => walk_at "meth")
    (case i_Disk => walk_at "init")
    (case i_Journal => walk_at "init")
    (case D => (refine' ⟨?i, ?n0, ?n1, ?n2⟩; (case i => walk_at "ins"); (case n0 => (refine Y.noattr_of ?_; k_is)); (case n1 => (refine Y.noattr_of ?_; k_is)); (case n2 => (refine Y.noattr_of ?_; k_is))))
    (case B => (refine' ⟨?i, ?n0, ?n1, ?n2, ?n3, ?n4, ?n5⟩; (case i => walk_at "ins"); (case n0 => (refine Y.noattr_of ?_; k_is)); (case n1 => (refine Y.noattr_of ?_; k_is)); (case n2 => (refine Y.noattr_of ?_; k_is)); (case n3 => (refine Y.noattr_of ?_; k_is)); (case n4 => (refine Y.noattr_of ?_; k_is)); (case n5 => (refine Y.noattr_of ?_; k_is))))
    (case I => (refine' ⟨?a, ?b, ?c, ?d, ?e⟩; (case a => walk_at "fact"); (case b => walk_at "fact"); (case c => walk_at "fact"); (case d => walk_at "fact"); (case e => walk_at "fact")))
    (case ER => (refine' ⟨_, _, _, _, _, _, _, _, ?eD, ?eP⟩; (case eD => walk_at "err"); (case eP => walk_at "err")))
    (case EK => (refine' Y.exk_mk KX G ?e ?a ?b ?c; (case e => k_is); (case a => walk_at "fact"); (case b => walk_at "fact"); (case c => walk_at "fact")))
    (case z1 => k_is)
    (case z2 => k_is)
    (case z_isinstance => k_is)
    (case z_len => k_is)
    (case z_tuple => k_is)
    (case z_list => k_is)
    (case z_int => k_is)
    (case z_str => k_is)
    (case z_bool => k_is)
    (case z_all => k_is)
    (case z_max => k_is)
    (case z_range => k_is)
    (case z_sorted => k_is)
    (case z_abs => k_is)

