import PyProof.Rows.All
import Wide.All
import OpenK.AllK
import Wide.FinOn
import HandS.ForMost
import HandS.ForExc
import HandS.TryMany
import HandS.ExcInit
import HandS.ExcField
import HandS.Lambda
import HandS.DictComp
import HandS.TupLen
import HandS.TupAny
import HandS.TupMul
import HandS.Conv
import HandS.Style
import HandS.IsInst
import HandS.Deep
import HandS.Wide
import KE.SortData
import KE.KExcSuper
import HandS.ExcSuper
import HandS.Steps
import HandS.EndTab
import PySem.Challenge.RW_mapsapart_k66_whole_slots_read_back_and
set_option Elab.async false
set_option maxRecDepth 100000
set_option maxHeartbeats 4000000
set_option linter.all false
/-! part A0 -/
/-! The own layer: heaps that grow, data on a heap, short rules for readings. -/
namespace Y
open PySem L2
/-! ### how heaps go on -/
/-- all that was known stays -/
def Ex (H H' : Hp) : Prop := ∀ a o, H a = some o → H' a = some o
/-- all but what stands at S; tuples stay always -/
structure Go (S : List Addr) (H H' : Hp) : Prop where
  keep : ∀ a o, a ∉ S → H a = some o → H' a = some o
  tup : ∀ a xs, H a = some (.tup xs) → H' a = some (.tup xs)
theorem Ex.refl (H : Hp) : Ex H H := fun _ _ h => h
theorem Ex.trans {H H1 H2 : Hp} (a : Ex H H1) (b : Ex H1 H2) : Ex H H2 := fun x o h => b x o (a x o h)
theorem Ex.go {H H' : Hp} (e : Ex H H') {S : List Addr} : Go S H H' := ⟨fun a o _ h => e a o h, fun a xs h => e a _ h⟩
theorem Ex.free {H H' : Hp} (e : Ex H H') {l : Addr} (h : H' l = none) : H l = none := by
  cases q : H l with
  | none => rfl
  | some o => rw [e l o q] at h; cases h
theorem Ex.new {H : Hp} {p : Addr} {o : HO} (h : H p = none) : Ex H (upd H p o) := fun a u e => by
  rw [upd_ne (ne_of_none e h)]; exact e
theorem Go.refl (S : List Addr) (H : Hp) : Go S H H := ⟨fun _ _ _ h => h, fun _ _ h => h⟩
theorem Go.trans {S : List Addr} {H H1 H2 : Hp} (a : Go S H H1) (b : Go S H1 H2) : Go S H H2 :=
  ⟨fun x o n h => b.keep x o n (a.keep x o n h), fun x xs h => b.tup x xs (a.tup x xs h)⟩
theorem Go.mono {S T : List Addr} {H H1 : Hp} (a : Go S H H1) (h : ∀ x ∈ S, x ∈ T) : Go T H H1 :=
  ⟨fun x o n e => a.keep x o (fun z => n (h x z)) e, a.tup⟩
theorem Go.ex {H H1 : Hp} (a : Go [] H H1) : Ex H H1 := fun x o h => a.keep x o (by simp) h
/-- an object that is no tuple is written anew -/
theorem Go.set {H : Hp} {p : Addr} {o u : HO} (h : H p = some u) (n : ∀ xs, u ≠ .tup xs) : Go [p] H (upd H p o) :=
  ⟨fun a v m e => by rw [upd_ne (fun z => m (by simp [z]))]; exact e, fun a xs e => by
    rw [upd_ne (fun z => by rw [z, h] at e; exact n xs (Option.some.inj e))]; exact e⟩
theorem Go.fresh {H H' H2 : Hp} {p : Addr} {S : List Addr} (e : Ex H H') (n : H p = none) (g : Go (p :: S) H' H2) : Go S H H2 :=
  ⟨fun a o m h => g.keep a o (by
      intro z
      rcases List.mem_cons.mp z with z | z
      · rw [z, n] at h; cases h
      · exact m z) (e a o h), fun a xs h => g.tup a xs (e a _ h)⟩
/-- H without what stands at S -/
def hide (S : List Addr) (H : Hp) : Hp := fun a => if a ∈ S then none else H a
theorem hide_ex (S : List Addr) (H : Hp) : Ex (hide S H) H := fun a o h => by
  unfold hide at h
  split at h
  · cases h
  · exact h
theorem hide_at {S : List Addr} {H : Hp} {a : Addr} (h : a ∉ S) : hide S H a = H a := by unfold hide; rw [if_neg h]
theorem Go.hide {S : List Addr} {H H' : Hp} (g : Go S H H') : Ex (hide S H) (hide S H') := fun a o h => by
  by_cases m : a ∈ S
  · unfold Y.hide at h; rw [if_pos m] at h; cases h
  · rw [hide_at m] at h ⊢; exact g.keep a o m h
/-! ### data that stand on a heap; an instance is told as an empty dict, which no other datum is -/
/-- what isinstance asks of an own class -/
structure InsO (K : PySem.W.Frag) (C : Addr) : Prop where
  cl : Cls K C
  ha : PySem.W.findIn K (.ref C) "__class__" = some (some (.builtin "object.__class__"))
  hn : PySem.W.specialIn K (.builtin "object.__class__") "__get__" = some (some (.builtin "getset_descriptor.__get__"))
  htk : PySem.W.takesIn K (.builtin "object.__class__") = some true
  hm : PySem.W.mroIn K C (.type "object") = some true
  kT : PySem.W.kitOne K (.ref C) (.type "tuple") = some false
  kL : PySem.W.kitOne K (.ref C) (.type "list") = some false
  kI : PySem.W.kitOne K (.ref C) (.type "int") = some false
  kB : PySem.W.kitOne K (.ref C) (.type "bool") = some false
  kS : PySem.W.kitOne K (.ref C) (.type "str") = some false
variable {K : PySem.W.Frag}
mutual
inductive Wt (K : PySem.W.Frag) (H : Hp) : V → PyData → Prop
  | non : Wt K H .non .none
  | bl (b : Bool) : Wt K H (.bl b) (.bool b)
  | int (i : Int) : Wt K H (.int i) (.int i)
  | str (x : Str) : Wt K H (.str x) (.str x)
  | tup {a : Addr} {xs : List V} {ds : List PyData} : H a = some (.tup xs) → WtL K H xs ds → Wt K H (.ref a) (.tuple ds)
  | lst {a : Addr} {xs : List V} {ds : List PyData} : H a = some (.lst xs) → WtL K H xs ds → Wt K H (.ref a) (.list ds)
  | obj {a C dx : Addr} {fs : List (Str × V)} : H a = some (.ins C dx fs) → InsO K C → Wt K H (.ref a) (.dict [])
inductive WtL (K : PySem.W.Frag) (H : Hp) : List V → List PyData → Prop
  | nil : WtL K H [] []
  | cons {v : V} {vs : List V} {d : PyData} {ds : List PyData} : Wt K H v d → WtL K H vs ds → WtL K H (v :: vs) (d :: ds)
end
mutual
theorem Wt.ex {H H' : Hp} (e : Ex H H') : ∀ {v : V} {d : PyData}, Wt K H v d → Wt K H' v d
  | _, _, .non => .non
  | _, _, .bl b => .bl b
  | _, _, .int i => .int i
  | _, _, .str x => .str x
  | _, _, .tup h r => .tup (e _ _ h) (WtL.ex e r)
  | _, _, .lst h r => .lst (e _ _ h) (WtL.ex e r)
  | _, _, .obj h c => .obj (e _ _ h) c
theorem WtL.ex {H H' : Hp} (e : Ex H H') : ∀ {vs : List V} {ds : List PyData}, WtL K H vs ds → WtL K H' vs ds
  | _, _, .nil => .nil
  | _, _, .cons h r => .cons (Wt.ex e h) (WtL.ex e r)
end
/-- nothing but tuples and flat things -/
def tupOnly : PyData → Bool
  | .list _ => false
  | .dict _ => false
  | .tuple xs => tupOnlyL xs
  | _ => true
where
  tupOnlyL : List PyData → Bool
  | [] => true
  | d :: ds => tupOnly d && tupOnlyL ds
abbrev tupOnlyL := tupOnly.tupOnlyL
mutual
theorem Wt.go {S : List Addr} {H H' : Hp} (g : Go S H H') : ∀ {v : V} {d : PyData}, tupOnly d = true → Wt K H v d → Wt K H' v d
  | _, _, _, .non => .non
  | _, _, _, .bl b => .bl b
  | _, _, _, .int i => .int i
  | _, _, _, .str x => .str x
  | _, .tuple ds, t, .tup h r => .tup (g.tup _ _ h) (WtL.go g (by simpa [tupOnly] using t) r)
  | _, .list _, t, .lst h r => by simp [tupOnly] at t
  | _, .dict _, t, .obj h c => by simp [tupOnly] at t
theorem WtL.go {S : List Addr} {H H' : Hp} (g : Go S H H') : ∀ {vs : List V} {ds : List PyData}, tupOnly.tupOnlyL ds = true → WtL K H vs ds → WtL K H' vs ds
  | _, _, _, .nil => .nil
  | _, _, t, .cons h r => by
    simp only [tupOnly.tupOnlyL, Bool.and_eq_true] at t
    exact .cons (Wt.go g t.1 h) (WtL.go g t.2 r)
end
theorem WtL.len {H : Hp} : ∀ {vs : List V} {ds : List PyData}, WtL K H vs ds → vs.length = ds.length
  | _, _, .nil => rfl
  | _, _, .cons _ r => by simp [WtL.len r]
theorem WtL.get {H : Hp} : ∀ {vs : List V} {ds : List PyData} {i : Nat} {v : V}, WtL K H vs ds → vs[i]? = some v → ∃ d, ds[i]? = some d ∧ Wt K H v d
  | _, _, _, _, .nil, e => by simp at e
  | _, _, 0, _, .cons h _, e => by simp at e; subst e; exact ⟨_, rfl, h⟩
  | _, _, i + 1, _, .cons _ r, e => by
    obtain ⟨d, h1, h2⟩ := WtL.get (i := i) r (by simpa using e)
    exact ⟨d, by simpa using h1, h2⟩
theorem WtL.getD {H : Hp} : ∀ {vs : List V} {ds : List PyData} {i : Nat} {d : PyData}, WtL K H vs ds → ds[i]? = some d → ∃ v, vs[i]? = some v ∧ Wt K H v d
  | _, _, _, _, .nil, e => by simp at e
  | _, _, 0, _, .cons h _, e => by simp at e; subst e; exact ⟨_, rfl, h⟩
  | _, _, i + 1, _, .cons _ r, e => by
    obtain ⟨d, h1, h2⟩ := WtL.getD (i := i) r (by simpa using e)
    exact ⟨d, by simpa using h1, h2⟩
theorem WtL.append {H : Hp} : ∀ {vs ws : List V} {ds es : List PyData}, WtL K H vs ds → WtL K H ws es → WtL K H (vs ++ ws) (ds ++ es)
  | _, _, _, _, .nil, s => s
  | _, _, _, _, .cons h r, s => .cons h (WtL.append r s)
theorem WtL.drop {H : Hp} : ∀ {vs : List V} {ds : List PyData} (n : Nat), WtL K H vs ds → WtL K H (vs.drop n) (ds.drop n)
  | _, _, 0, r => r
  | _, _, _ + 1, .nil => .nil
  | _, _, n + 1, .cons _ r => WtL.drop n r
theorem WtL.take {H : Hp} : ∀ {vs : List V} {ds : List PyData} (n : Nat), WtL K H vs ds → WtL K H (vs.take n) (ds.take n)
  | _, _, 0, _ => .nil
  | _, _, _ + 1, .nil => .nil
  | _, _, n + 1, .cons h r => .cons h (WtL.take n r)
theorem WtL.set {H : Hp} {v : V} {d : PyData} (h : Wt K H v d) : ∀ {vs : List V} {ds : List PyData} (n : Nat), WtL K H vs ds → WtL K H (vs.set n v) (ds.set n d)
  | _, _, _, .nil => .nil
  | _, _, 0, .cons _ r => .cons h r
  | _, _, n + 1, .cons q r => .cons q (WtL.set h n r)
theorem WtL.map {H : Hp} {α : Type} {f : α → V} {g : α → PyData} : ∀ {xs : List α}, (∀ x ∈ xs, Wt K H (f x) (g x)) → WtL K H (xs.map f) (xs.map g)
  | [], _ => .nil
  | x :: xs, h => .cons (h x (List.mem_cons_self ..)) (WtL.map fun y hy => h y (List.mem_cons_of_mem _ hy))
theorem WtL.replicate {H : Hp} {v : V} {d : PyData} (h : Wt K H v d) : ∀ n : Nat, WtL K H (List.replicate n v) (List.replicate n d)
  | 0 => .nil
  | n + 1 => .cons h (WtL.replicate h n)
mutual
/-- told once: a value stands for one datum (but lists and instances told apart by their heaps) -/
theorem Wt.dp {H : Hp} : ∀ {v : V} {d : PyData}, d.canLay0 = true → Wt K H v d → Dp K H v d
  | _, _, _, .non => .non
  | _, _, _, .bl b => .bl b
  | _, _, _, .int i => .int i
  | _, _, _, .str x => .str x
  | _, .tuple ds, t, .tup h r => .tup (SqT.of h) (WtL.dp (by simpa [PyData.canLay0] using t) r)
  | _, .list ds, t, .lst h r => .lst (SqL.of h) (WtL.dp (by simpa [PyData.canLay0] using t) r)
  | _, .dict _, t, .obj h c => by simp [PyData.canLay0] at t
theorem WtL.dp {H : Hp} : ∀ {vs : List V} {ds : List PyData}, PyData.canLayAll0 ds = true → WtL K H vs ds → DpAll K H vs ds
  | _, _, _, .nil => .nil
  | _, _, t, .cons h r => by
    simp only [PyData.canLayAll0, Bool.and_eq_true] at t
    exact .cons (Wt.dp t.1 h) (WtL.dp t.2 r)
end
/-! ### kinds of data -/
def isTup : PyData → Bool | .tuple _ => true | _ => false
def isLst : PyData → Bool | .list _ => true | _ => false
def isBoo : PyData → Bool | .bool _ => true | _ => false
def isStr : PyData → Bool | .str _ => true | _ => false
def isIntg : PyData → Bool | .int _ => true | .bool _ => true | _ => false
section
variable {H : Hp} {x : V} {d : PyData} {Q : VK}
theorem r_isi {n : String} {c : PyData → Bool} (h : Wt K H x d) (q : Q (.bl (c d)) H)
    (f : (d = .none → kitB "NoneType" n = some (c d)) ∧ (∀ b, d = .bool b → kitB "bool" n = some (c d)) ∧ (∀ b, d = .int b → kitB "int" n = some (c d)) ∧ (∀ b, d = .str b → kitB "str" n = some (c d)) ∧
      (∀ b, d = .tuple b → kitB "tuple" n = some (c d)) ∧ (∀ b, d = .list b → kitB "list" n = some (c d)) ∧ (d = .dict [] → ∀ C, InsO K C → PySem.W.kitOne K (.ref C) (.type n) = some (c d))) : rIsi K [x, .ty n] H Q := by
  obtain ⟨f1, f2, f3, f4, f5, f6, f7⟩ := f
  cases h with
  | non => exact ⟨_, _, _, _, _, rfl, .ty n, .base .non, kit_ty (f1 rfl), q⟩
  | bl b => exact ⟨_, _, _, _, _, rfl, .ty n, .base (.bl b), kit_ty (f2 b rfl), q⟩
  | int b => exact ⟨_, _, _, _, _, rfl, .ty n, .base (.int b), kit_ty (f3 b rfl), q⟩
  | str b => exact ⟨_, _, _, _, _, rfl, .ty n, .base (.str b), kit_ty (f4 b rfl), q⟩
  | tup e r => exact ⟨_, _, _, _, _, rfl, .ty n, .base (.tup e), kit_ty (f5 _ rfl), q⟩
  | lst e r => exact ⟨_, _, _, _, _, rfl, .ty n, .base (.lst e), kit_ty (f6 _ rfl), q⟩
  | obj e c => exact ⟨_, _, _, _, _, rfl, .ty n, .base (.ins e c.cl c.ha c.hn c.htk c.hm), f7 rfl _ c, q⟩
theorem r_isTup (h : Wt K H x d) (q : Q (.bl (isTup d)) H) : rIsi K [x, .ty "tuple"] H Q :=
  r_isi h q ⟨fun e => by subst e; decide +kernel, fun b e => by subst e; show kitB "bool" "tuple" = some false; decide +kernel, fun b e => by subst e; show kitB "int" "tuple" = some false; decide +kernel, fun b e => by subst e; show kitB "str" "tuple" = some false; decide +kernel,
    fun b e => by subst e; show kitB "tuple" "tuple" = some true; decide +kernel, fun b e => by subst e; show kitB "list" "tuple" = some false; decide +kernel, fun e C c => by subst e; exact c.kT⟩
theorem r_isLst (h : Wt K H x d) (q : Q (.bl (isLst d)) H) : rIsi K [x, .ty "list"] H Q :=
  r_isi h q ⟨fun e => by subst e; decide +kernel, fun b e => by subst e; show kitB "bool" "list" = some false; decide +kernel, fun b e => by subst e; show kitB "int" "list" = some false; decide +kernel, fun b e => by subst e; show kitB "str" "list" = some false; decide +kernel,
    fun b e => by subst e; show kitB "tuple" "list" = some false; decide +kernel, fun b e => by subst e; show kitB "list" "list" = some true; decide +kernel, fun e C c => by subst e; exact c.kL⟩
theorem r_isInt (h : Wt K H x d) (q : Q (.bl (isIntg d)) H) : rIsi K [x, .ty "int"] H Q :=
  r_isi h q ⟨fun e => by subst e; decide +kernel, fun b e => by subst e; show kitB "bool" "int" = some true; decide +kernel, fun b e => by subst e; show kitB "int" "int" = some true; decide +kernel, fun b e => by subst e; show kitB "str" "int" = some false; decide +kernel,
    fun b e => by subst e; show kitB "tuple" "int" = some false; decide +kernel, fun b e => by subst e; show kitB "list" "int" = some false; decide +kernel, fun e C c => by subst e; exact c.kI⟩
theorem r_isBool (h : Wt K H x d) (q : Q (.bl (isBoo d)) H) : rIsi K [x, .ty "bool"] H Q :=
  r_isi h q ⟨fun e => by subst e; decide +kernel, fun b e => by subst e; show kitB "bool" "bool" = some true; decide +kernel, fun b e => by subst e; show kitB "int" "bool" = some false; decide +kernel, fun b e => by subst e; show kitB "str" "bool" = some false; decide +kernel,
    fun b e => by subst e; show kitB "tuple" "bool" = some false; decide +kernel, fun b e => by subst e; show kitB "list" "bool" = some false; decide +kernel, fun e C c => by subst e; exact c.kB⟩
theorem r_isStr (h : Wt K H x d) (q : Q (.bl (isStr d)) H) : rIsi K [x, .ty "str"] H Q :=
  r_isi h q ⟨fun e => by subst e; decide +kernel, fun b e => by subst e; show kitB "bool" "str" = some false; decide +kernel, fun b e => by subst e; show kitB "int" "str" = some false; decide +kernel, fun b e => by subst e; show kitB "str" "str" = some true; decide +kernel,
    fun b e => by subst e; show kitB "tuple" "str" = some false; decide +kernel, fun b e => by subst e; show kitB "list" "str" = some false; decide +kernel, fun e C c => by subst e; exact c.kS⟩
end
end Y
/-! part A1 -/
/-! Rules that the layer lacks: orders of any kind, sorted keys of a dict by tuples. -/
namespace Y
open PySem L2 PySem.Spec PyProof.Rows
/-- a key as a datum -/
def kD : L2.Key → PyData
  | .inl i => .int i
  | .inr y => .str y
def tkD (k : List L2.Key) : PyData := .tuple (k.map kD)
section
variable {X : Cx}
/-- a < b of data that are alike -/
def rLtD (K : PySem.W.Frag) : R2 := fun x y H Q => ∃ d e, Dp K H x d ∧ Dp K H y e ∧ PySem.W.alike d e = true ∧ d ≠ .none ∧ min d.depth e.depth ≤ 64 ∧ Q (.bl (PySem.W.dataLt d e)) H
theorem op_ltD (hu : X.A.units + 64 < cLine) : OpR X (compareOp .Lt) (rLtD X.K) := by
  intro pins s σ H x y v u Q I rx ry h
  obtain ⟨d, e, hd, he, al, dn, dp, q⟩ := h
  obtain ⟨as, r1⟩ := Dp.reads I d x v hd rx
  obtain ⟨bs, r2⟩ := Dp.reads I e y u he ry
  exact PySem.W.rcLt_alike d e _ s v u as bs r1 r2 al dn (by omega) _ _ _ _ ⟨.bl _, H, I, rfl, q⟩
/-- sorted(d) of a dict whose keys are tuples: the keys' tuples in order -/
def rSortK : List V → Hp → VK → Prop := fun vs H Q => ∃ (a : Addr) (kvs : List (List L2.Key × V)), vs = [.ref a] ∧ H a = some (.dT kvs) ∧ (∀ k ∈ kvs.map (·.1), k ≠ []) ∧
  (∀ k ∈ kvs.map (·.1), ∀ l ∈ kvs.map (·.1), PySem.W.alikeAll (k.map kD) (l.map kD) = true) ∧
  ∀ (p : Addr) (bs : List Addr), H p = none → Paired (fun b k => H b = some (.tup (k.map kV))) bs ((kvs.map (·.1)).mergeSort (PySem.W.dataLe false tkD)) → Q (.ref p) (upd H p (.lst (bs.map V.ref)))
theorem reads_key {h : Heap} : ∀ {k : List L2.Key} {its : List Value}, Vals (k.map kV) its → ReadsAll h its (k.map kD) []
  | [], _, .nil => .nil
  | .inl i :: k, _, .cons r t => by
    obtain ⟨z, rfl⟩ := r
    exact ReadsAll.cons (Reads.int i z) (reads_key t)
  | .inr i :: k, _, .cons r t => by
    obtain ⟨z, rfl⟩ := r
    exact ReadsAll.cons (Reads.str i z) (reads_key t)
theorem depth_key : ∀ k : List L2.Key, PyData.depthAll (k.map kD) = 0
  | [] => by simp [PyData.depthAll]
  | .inl i :: k => by simp [PyData.depthAll, kD, PyData.depth, depth_key k]
  | .inr i :: k => by simp [PyData.depthAll, kD, PyData.depth, depth_key k]
theorem each_of {R : Value → List L2.Key → Prop} : ∀ {vs : List Value} {ks : List (List L2.Key)}, vs.length = ks.length → (∀ (j : Nat) (v : Value), vs[j]? = some v → ∃ k, ks[j]? = some k ∧ R v k) → PySem.W.EachIs R vs ks
  | [], [], _, _ => .nil
  | v :: vs, k :: ks, hl, h => by
    obtain ⟨k', e, r⟩ := h 0 v rfl
    have e' : k = k' := by simpa using e
    subst e'
    exact .cons r (each_of (by simpa using hl) fun j v e => by
      obtain ⟨k, a, b⟩ := h (j + 1) v (by simpa using e)
      exact ⟨k, by simpa using a, b⟩)
  | [], _ :: _, hl, _ => by simp at hl
  | _ :: _, [], hl, _ => by simp at hl
theorem refs_of {H : Hp} : ∀ {vs : List Value} {ks : List (List L2.Key)}, PySem.W.EachIs (fun v k => ∃ b, v = Value.ref b ∧ H b = some (.tup (k.map kV))) vs ks → ∃ bs : List Addr, vs = bs.map Value.ref ∧ Paired (fun b (k : List L2.Key) => H b = some (.tup (k.map kV))) bs ks
  | _, _, .nil => ⟨[], rfl, .nil⟩
  | _, _, .cons h t => by
    obtain ⟨b, rfl, hb⟩ := h
    obtain ⟨bs, rfl, r⟩ := refs_of t
    exact ⟨b :: bs, rfl, .cons hb r⟩
theorem call_sortK (hc : X.calm = true) (hu : X.A.units + 64 < cLine) : CallR X (.builtin "sorted") rSortK := by
  intro pins s σ H xs us Q I r h
  obtain ⟨a, kvs, rfl, ha, ne, al, q⟩ := h
  obtain ⟨u, rfl, rx⟩ := vals1 r
  cases rx
  obtain ⟨z, lo, ms, rel, o, es, ep, ho, hx, hdt, hes, _, hn⟩ := dt_of I.hok ha
  have l2 : kvs.length = ms.length := Paired.length rel
  have l1 : es.size = ms.length := size_of_entries hes
  refine Calls.call_function_entry PyProof.Rows.kind_sorted PyProof.Rows.plain_sorted PyProof.Rows.entry_sorted (PyProof.Rows.args_sorted1 _) ?_
  unfold Builtin.«sorted»
  refine wpAny_bind (m := checkCount "sorted" 1 1 _) (wpAny_pure ?_)
  refine wpAny_bind (PySem.W.kdu_collect (A := X.A.in1) (kdl_raw lo hx hdt) (I.ok.hd hc) ho (by omega) fun h' tk acc hk hacc => ?_)
  have la : acc.toList.length = (kvs.map (·.1)).length := by rw [Array.length_toList, hacc.1, List.length_map]; omega
  have each : PySem.W.EachIs (fun v (k : List L2.Key) => ∃ b, v = Value.ref b ∧ H b = some (.tup (k.map kV))) acc.toList (kvs.map (·.1)) := each_of la fun j v e => by
    obtain ⟨en, he, hv⟩ := hacc.2 j v (by rw [← Array.getElem?_toList]; exact e)
    have e1 := entry_at hes j
    rw [he] at e1
    cases hm : ms[j]? with
    | none => rw [hm] at e1; exact nomatch (show some en = none from e1)
    | some m =>
      rw [hm] at e1
      have e2 : en = entryOfKey (tupleKind (mixKind X.prog X.w)) m := Option.some.inj e1
      have look : ∀ {l : List (List L2.Key × V)} {n : List (List L2.Key × Addr × Value)} {j : Nat} {m : List L2.Key × Addr × Value}, KT H l n → n[j]? = some m → ∃ p, l[j]? = some p ∧ p.1 = m.1 ∧ H m.2.1 = some (.tup (p.1.map kV)) := by
        intro l n j m rr
        induction rr generalizing j with
        | nil => intro z; simp at z
        | cons hp _ ih =>
          intro z
          cases j with
          | zero => simp at z; subst z; exact ⟨_, rfl, hp.1, hp.2.1⟩
          | succ j =>
            obtain ⟨p, a1, a2⟩ := ih (by simpa using z)
            exact ⟨p, by simpa using a1, a2⟩
      obtain ⟨p, p1, p2, p3⟩ := look rel hm
      exact ⟨p.1, by rw [List.getElem?_map, p1] <;> rfl, m.2.1, by rw [hv, e2] <;> rfl, p3⟩
  have I1 : Inv X pins σ H { s with heap := h', toks := tk } := I.kept hk
  refine wpAny_bind (wpAny_newList ?_ (by rw [la, List.length_map]; exact z))
  have hoL : (h'.push (seqObj "list" acc.toList.toArray 0)).get? h'.objs.size = some (seqObj "list" acc.toList.toArray 0) := Heap.get?_push_size _ rfl
  have kb : ∀ b o, h'.get? b = some o → (h'.push (seqObj "list" acc.toList.toArray 0)).get? b = some o := fun b o e => Heap.get?_push_of_some _ e
  show wpAny _ _ _ _ _ { s with heap := h'.push (seqObj "list" acc.toList.toArray 0), toks := tk }
  refine wpAny_bind (wpAny_holding (PySem.W.list_sort_data (s := { s with heap := h'.push (seqObj "list" acc.toList.toArray 0), toks := tk }) (enc := tkD) (R := fun v (k : List L2.Key) => ∃ b, v = Value.ref b ∧ H b = some (.tup (k.map kV))) hoL each ?_ ?_ ?_ (by rw [List.length_map]; exact z) ?_ fun out lo' eo => ?_))
  · refine each.mono fun v k hv => ?_
    obtain ⟨b, rfl, hb⟩ := hv
    obtain ⟨_, its, rv, o', h1, h2, n, h3⟩ := (show ObjOk X.prog X.w H h' b (.tup (k.map kV)) from I1.hok b _ hb)
    exact ⟨[], Reads.tuple (kb _ _ h1) h2 h3 (reads_key rv), by simp⟩
  · intro d hd e he
    obtain ⟨k, hk', rfl⟩ := List.mem_map.mp hd
    obtain ⟨l, hl', rfl⟩ := List.mem_map.mp he
    show PySem.W.alike (.tuple (k.map kD)) (.tuple (l.map kD)) = true
    rw [PySem.W.alike]
    exact al k hk' l hl'
  · refine .inl fun d hd => ?_
    obtain ⟨k, hk', rfl⟩ := List.mem_map.mp hd
    cases k with
    | nil => exact absurd rfl (ne _ hk')
    | cons x r => exact ⟨_, _, rfl⟩
  · intro k _
    have e : (tkD k).depth ≤ 1 := by
      unfold tkD
      rw [PyData.depth, depth_key k]
      omega
    have e2 : X.A.in1.units = X.A.units + 1 := rfl
    omega
  · obtain ⟨bs, rfl, pr⟩ := refs_of eo
    obtain ⟨e', he'⟩ := PyProof.Rows.sortedHeap_at (vs := acc.toList) (out := (List.toArray (bs.map Value.ref))) hoL
    have lb : bs.length = kvs.length := by
      rw [List.length_map, List.length_map] at lo'
      exact lo'
    have hlen : (bs.map V.ref).length ≤ sizeLine := by rw [List.length_map, lb]; exact z
    refine wpAny_pure ⟨_, rfl, .ref h'.objs.size, upd H h'.objs.size (.lst (bs.map V.ref)), I1.laid (t' := tk) (fun b u e => ?_) (Nat.le_refl _)
      (show ObjOk X.prog X.w _ _ _ (.lst (bs.map V.ref)) from ⟨hlen, bs.map Value.ref, e', vals_refs bs, he'⟩), rfl, q _ bs (I1.hok.fresh (Nat.le_refl _)) pr⟩
    have hb : b < h'.objs.size := Heap.lt_size e
    rw [PyProof.Rows.sortedHeap_old (Nat.ne_of_lt hb) (Heap.lt_size (kb _ _ e))]
    exact kb _ _ e
end
end Y
/-! part A2 -/
/-! A dict comprehension whose keys are tuples. -/
namespace Y
open PySem L2 PySem.Spec PyProof.Rows
theorem put_tk {X : Cx} {pins : List (Addr × Obj)} {σ : L2.St} {H : Hp} {s : Shared} {E : Value → Shared → Prop} {D b : Addr} {kvs : List (List L2.Key × V)} {k : List L2.Key} {v : V} {u r : Value} {Q : Unit → Shared → Prop}
    (hu : X.A.units + 1 < cLine) (I : Inv X pins σ H s) (hD : H D = some (.dT kvs)) (hb : H b = some (.tup (k.map kV))) (hz : kvs.length < sizeLine)
    (ry : RelV (.ref b) u) (rv : RelV v r) (h : ∀ s', Inv X pins σ (upd H D (.dT (putK kvs k v))) s' → Q () s') : wpAny (model X.prog X.w) X.A (dictSet D u r) Q E s := by
  cases (show u = Value.ref b from ry)
  obtain ⟨z, hd, xs, rel, dd⟩ := dt_of I.hok hD
  have hl : (putK kvs k v).length ≤ sizeLine := by
    have := length_putK kvs k v
    omega
  refine wpAny_dictSet_heap (hsz := by rw [← Paired.length rel]; exact z) (show (tupleKind (mixKind X.prog X.w)).room X.A from Nat.lt_of_succ_lt hu) (key_of I.hok hb) dd fun h' dd' hs => h _ ?_
  obtain ⟨q, es, ep, hq, h2, h3, h4, _, h5⟩ := dd'
  refine d_write I (by rw [hD]; exact True.intro) hs ⟨q, hq⟩ ⟨hl, hd, _, (rel.put k hb rv).keeps fun c ys ec => ?_, q, es, ep, hq, h2, h3, h4, h5⟩
  rw [upd_ne (ne_of ec hD (fun z => nomatch z))]
  exact ec
section
variable {X : Cx}
def tDq (wi : TI) (g : TG) (tt : TT) (tk tv : TE) (vs : List Nat) : TE := fun σ H Q => wi σ H fun J H1 => ∀ D, H1 D = none → ∃ W : Nat → Nat → Hp → Prop, (∃ m, W 0 m (upd H1 D (.dT []))) ∧ ∀ i m H, W i m H →
  (J.stop i H ∧ Q (.ref D) H) ∨ (J.go i H ∧ ∃ Nx : Hp → Prop, (∀ H', Nx H' → ∃ m', m' < m ∧ W (i + 1) m' H') ∧ ∀ x H', J.yld i H x H' → g x (wipe σ vs) H' fun σ2 H2 => wipe σ2 vs = wipe σ vs ∧ tt σ2 H2 fun b H3 =>
    if b = true then tk σ2 H3 fun y H4 => tv σ2 H4 fun z H5 => ∃ (kvs : List (List L2.Key × V)) (k : List L2.Key) (b : Addr), y = .ref b ∧ H5 b = some (.tup (k.map kV)) ∧ H5 D = some (.dT kvs) ∧ kvs.length < sizeLine ∧ Nx (upd H5 D (.dT (putK kvs k z))) else Nx H3)
theorem dq_core {pins : List (Addr × Obj)} {s : Shared} {σ : L2.St} {H : Hp} {Q : VK} {kx vx tg iter : Expr} {ifs : List Expr} {scope : Scope} {own : List (Str × Nat)} {pos pos' : Pos} {wi : TI} {g : TG} {tt : TT} {tk tv : TE} {use : Option (Value → Sem Unit)} {Qf : Value → Shared → Prop}
    (hu : X.A.units + 1 < cLine) (hc : X.calm = true) (hN : X.N.Nodup) (I : Inv X pins σ H s) (hi : PI X tg iter wi) (ok : BlkOk X.N X.env.scope scope own)
    (hg : ∀ (s : Shared) (H : Hp) (C : Addr) (cl : List (Str × Addr)) (fp : List Addr), PG (X.blk s H scope (compEnvC scope cl C X.env) fp) tg g) (ht : ∀ (s : Shared) (H : Hp) (C : Addr) (cl : List (Str × Addr)) (fp : List Addr), PTs (X.blk s H scope (compEnvC scope cl C X.env) fp) ifs tt)
    (hk : ∀ (s : Shared) (H : Hp) (C : Addr) (cl : List (Str × Addr)) (fp : List Addr), PE (X.blk s H scope (compEnvC scope cl C X.env) fp) kx tk)
    (he : ∀ (s : Shared) (H : Hp) (C : Addr) (cl : List (Str × Addr)) (fp : List Addr), PE (X.blk s H scope (compEnvC scope cl C X.env) fp) vx tv) (hs : ∀ x, foldedSetIterable iter X.env x = pure x)
    (h : tDq wi g tt tk tv (own.map (·.2)) σ H Q)
    (hRR : ∀ D C s' m H', Inv X pins σ H' s' → Q (.ref D) H' → s'.heap.Ns C m → FpOk X pins H' C → compPost (model X.prog X.w) X.A X.xe use Qf (.ref D) C (.ok .next) s') :
    wpAny (model X.prog X.w) X.A (comprehension (.DictComp kx vx [⟨tg, iter, ifs, 0⟩] scope pos) scope X.env pos' newDict false (eval iter X.env) use) Qf X.xe s := by
  have hfr : ∀ y ∈ scope.names, y.2 = .free → ∃ c, X.env.cells.lookup y.1 = some c := fun y hy e => by
    rcases ok.free y hy e with k | k
    · exact I.ok.has _ (.inl k)
    · exact I.ok.has _ (.inr k)
  refine wpAny_comprehension_free (use := use) rfl hs (closure_ok hfr) ok.kind (fun y hy e => by rw [ok.uniq y hy, e])
    (thn (hi.run pins s σ H _ I h) fun xv s1 hx => thn hx fun itv s2 h2 => ?_)
  obtain ⟨it, fp, tn, J, H2, e, I2, T, sa2, f2, q⟩ := h2
  subst e
  refine wpAny_newObj_type (newEnv_comp ?_)
  generalize hD : s2.heap.objs.size = D
  have hDnone : H2 D = none := I2.hok.fresh (Nat.le_of_eq hD)
  obtain ⟨W, ⟨m0, w0⟩, each⟩ := q D hDnone
  -- the new list
  generalize hs3 : ({ s2 with heap := s2.heap.push { cls := .type "dict", data := .dict #[] } } : Shared) = s3
  have I3 : Inv X pins σ (upd H2 D (.dT [])) s3 := by
    rw [← hs3]
    refine I2.laid (t' := s2.toks) (fun b o e => Heap.get?_push_of_some _ e) (Nat.le_of_eq hD) ?_
    rw [← hD]
    exact dt_empty s2.heap I2.big
  have h3 : s3.heap = s2.heap.push { cls := .type "dict", data := .dict #[] } := by rw [← hs3]
  have small : ∀ b ∈ fp, b < s2.heap.objs.size := fun b hb => by
    obtain ⟨o, e, _⟩ := T.obj _ _ sa2 b hb
    exact Heap.lt_size e
  have f3 : ∀ b ∈ fp, FpOk X pins (upd H2 D (.dT [])) b ∧ b < s3.heap.objs.size := fun b hb => by
    have hlt := small b hb
    refine ⟨⟨?_, (f2 b hb).2⟩, by rw [h3, Heap.size_push]; exact Nat.lt_succ_of_lt hlt⟩
    rw [upd_ne (by rw [← hD]; exact Nat.ne_of_lt hlt)]
    exact (f2 b hb).1
  have sa3 : tn 0 s3.heap := T.keep _ _ _ sa2 fun b _ o e => by rw [h3]; exact Heap.get?_push_of_some _ e
  have I4 := block_start I3 ok hN f3
  have ptg := hg s3 (upd H2 D (.dT [])) s3.heap.objs.size (cellsFrom (s3.heap.objs.size + 1) scope.names (cloFrom X.env.cells scope.names [])) fp
  have ptt := ht s3 (upd H2 D (.dT [])) s3.heap.objs.size (cellsFrom (s3.heap.objs.size + 1) scope.names (cloFrom X.env.cells scope.names [])) fp
  have pkey := hk s3 (upd H2 D (.dT [])) s3.heap.objs.size (cellsFrom (s3.heap.objs.size + 1) scope.names (cloFrom X.env.cells scope.names [])) fp
  have pval := he s3 (upd H2 D (.dT [])) s3.heap.objs.size (cellsFrom (s3.heap.objs.size + 1) scope.names (cloFrom X.env.cells scope.names [])) fp
  show codeAny _ _ (.compStart (.DictComp kx vx [⟨tg, iter, ifs, 0⟩] scope pos) 0 (.ref it) (.ref D) (compEnvC scope (cellsFrom (s3.heap.objs.size + 1) scope.names (cloFrom X.env.cells scope.names [])) s3.heap.objs.size X.env)) (compPost (model X.prog X.w) X.A X.xe use Qf (.ref D) s3.heap.objs.size) { s3 with heap := pushCells (s3.heap.push { cls := .type "dict", data := .dict #[] }) scope.names }
  have fpn : ∀ b ∈ fp, (upd H2 D (.dT [])) b = none := fun b hb => (f3 b hb).1.1
  generalize hcenv : compEnvC scope (cellsFrom (s3.heap.objs.size + 1) scope.names (cloFrom X.env.cells scope.names [])) s3.heap.objs.size X.env = cenv at I4 ptg ptt pkey pval ⊢
  have cL : cenv.locals = s3.heap.objs.size := by subst hcenv; rfl
  generalize hH3 : upd H2 D (.dT []) = H3 at I3 I4 ptg ptt pkey pval w0 fpn f3
  generalize hs4 : ({ s3 with heap := pushCells (s3.heap.push { cls := .type "dict", data := .dict #[] }) scope.names } : Shared) = s4 at I4 ⊢
  have sa4 : tn 0 s4.heap := T.keep _ _ _ sa3 fun b _ o e => by rw [← hs4]; exact pushCells_keeps _ _ _ _ (Heap.get?_push_of_some _ e)
  have still : ∀ {σ' : L2.St} {H' : Hp} {s' : Shared}, Inv (X.blk s3 H3 scope cenv fp) [] σ' H' s' → (∀ b ∈ fp, H' b = none) → ∀ b ∈ fp, FpOk (X.blk s3 H3 scope cenv fp) [] H' b := fun {σ' H' s'} I' hn b hb =>
    ⟨hn b hb, (I'.ok.exf b hb).1, I'.ok.exfs b hb, .inl hb, fun x c e => (I'.ok.exf b hb).2 x c e, fun p hp => absurd (show p ∈ ([] : List (Addr × Obj)) ++ [] from hp) (by simp)⟩
  have run : codeAny (model X.prog X.w) X.A (.compLoop (.DictComp kx vx [⟨tg, iter, ifs, 0⟩] scope pos) 0 (.ref it) (.ref D) cenv) (compPost (model X.prog X.w) X.A X.xe use Qf (.ref D) s3.heap.objs.size) s4 := by
    refine compLoop_anyD (fun n s' => ∃ i H', Inv (X.blk s3 H3 scope cenv fp) [] (wipe σ (own.map (·.2))) H' s' ∧ tn i s'.heap ∧ (∀ b ∈ fp, H' b = none) ∧ W i n H') ?_ m0 ⟨0, H3, I4, sa4, fpn, w0⟩
    rintro n s5 ⟨i, H5, I5, sa5, n5, w5⟩
    rcases each i n H5 w5 with ⟨atEnd, qq⟩ | ⟨gone, Nx, hNx, onward⟩
    · have fin1 := T.done (X.blk s3 H3 scope cenv fp) rfl rfl rfl hc i [] s5 _ H5 (fun _ _ => False) I5 (still I5 n5) sa5 atEnd
      refine thnF fin1 fun r s6 ⟨hr, I6⟩ => ?_
      subst hr
      -- back in the def's context
      have I7 : Inv X pins σ H5 s6 := I3.call' (ch := fp) I6.os I6.base I6.hok I6.bare fun b hb => ⟨(f3 b hb).1.2.2.2.1, (f3 b hb).1.2.1, (f3 b hb).1.2.2.2.2.1, (f3 b hb).1.2.2.2.2.2⟩
      have nC : H5 s3.heap.objs.size = none := by
        have z : H5 cenv.locals = none := I6.free
        rw [cL] at z
        exact z
      obtain ⟨m, hn, _⟩ := I6.loc
      have hn : s6.heap.Ns cenv.locals m := hn
      rw [cL] at hn
      exact hRR D s3.heap.objs.size s6 m H5 I7 qq hn (I3.fpOk (Nat.le_refl _) nC)
    · have nxt1 := T.item (X.blk s3 H3 scope cenv fp) rfl rfl rfl hc i [] s5 _ H5 (fun _ _ => False) I5 (still I5 n5) sa5 gone
      refine thnF nxt1 fun r s6 ⟨u, hr, h6⟩ => ?_
      subst hr
      refine thnF h6 fun _ s7 ⟨x, H7, I7, r7, y7, sa7, n7⟩ => ?_
      have I7' := I7.pinned (still I7 n7) (T.obj _ _ sa7)
      refine thnF (ptg.run _ s7 _ H7 x u _ I7' r7 (onward x H7 y7)) fun _ s8 ⟨σ8, H8, I8, hw8, q8⟩ => ?_
      refine thnF (ptt.run _ s8 σ8 H8 _ I8 q8) fun b s9 ⟨H9, I9, q9⟩ => ?_
      -- the turn's end
      have close : ∀ {s' : Shared} {H' : Hp}, Inv (X.blk s3 H3 scope cenv fp) ([] ++ pinsAt fp s7.heap) σ8 H' s' → Nx H' → ∃ m, m < n ∧ ∃ i H', Inv (X.blk s3 H3 scope cenv fp) [] (wipe σ (own.map (·.2))) H' s' ∧ tn i s'.heap ∧ (∀ b ∈ fp, H' b = none) ∧ W i m H' := fun {s' H'} I' nx => by
        obtain ⟨m', hm, w'⟩ := hNx H' nx
        have pin' : ∀ b ∈ fp, ∀ o, s7.heap.get? b = some o → s'.heap.get? b = some o ∧ H' b = none := fun b hb o e =>
          let z := I'.pin (b, o) (List.mem_append_right _ (List.mem_append_right _ (mem_pinsAt hb e)))
          ⟨z.1, z.2.1⟩
        have hl : (wipe σ (own.map (·.2))).length = σ8.length := by rw [← hw8, wipe_length]
        refine ⟨m', hm, i + 1, H', (I'.unpinned (pins := [])).weak hl (fun j v e => ?_), T.keep _ _ _ sa7 fun b hb o e => (pin' b hb o e).1, fun b hb => ?_, w'⟩
        · rw [← hw8] at e
          exact (wipe_some e).1
        · obtain ⟨o, e, _⟩ := T.obj _ _ sa7 b hb
          exact (pin' b hb o e).2
      cases b with
      | false =>
        simp only [Bool.false_eq_true, if_false] at q9 ⊢
        exact close I9 q9
      | true =>
        simp only [if_true] at q9 ⊢
        refine thnF (pkey.run _ s9 σ8 H9 _ I9 q9) fun z s10 ⟨yk, H10, I10, r10, q10⟩ => ?_
        refine thnF (pval.run _ s10 σ8 H10 _ I10 q10) fun z2 s11 ⟨yv, H11, I11, r11, kvs, k, kb, ek, hkb, hD11, hz11, nx⟩ => ?_
        subst ek
        exact put_tk (X := X.blk s3 H3 scope cenv fp) hu I11 hD11 hkb hz11 r10 r11 fun s12 I12 => close I12 nx
  exact codeAny_compStart_dict run (T.self X.A 0 _ _ _ sa4 run)
/-- as a value -/
theorem pe_dq {kx vx tg iter : Expr} {ifs : List Expr} {scope : Scope} {own : List (Str × Nat)} {pos : Pos} {wi : TI} {g : TG} {tt : TT} {tk tv : TE} (hu : X.A.units + 1 < cLine) (hc : X.calm = true) (hN : X.N.Nodup) (hi : PI X tg iter wi) (ok : BlkOk X.N X.env.scope scope own)
    (hg : ∀ (s : Shared) (H : Hp) (C : Addr) (cl : List (Str × Addr)) (fp : List Addr), PG (X.blk s H scope (compEnvC scope cl C X.env) fp) tg g) (ht : ∀ (s : Shared) (H : Hp) (C : Addr) (cl : List (Str × Addr)) (fp : List Addr), PTs (X.blk s H scope (compEnvC scope cl C X.env) fp) ifs tt)
    (hk : ∀ (s : Shared) (H : Hp) (C : Addr) (cl : List (Str × Addr)) (fp : List Addr), PE (X.blk s H scope (compEnvC scope cl C X.env) fp) kx tk)
    (he : ∀ (s : Shared) (H : Hp) (C : Addr) (cl : List (Str × Addr)) (fp : List Addr), PE (X.blk s H scope (compEnvC scope cl C X.env) fp) vx tv) (hs : ∀ x, foldedSetIterable iter X.env x = pure x := by intro _; rfl) :
    PE X (.DictComp kx vx [⟨tg, iter, ifs, 0⟩] scope pos) (tDq wi g tt tk tv (own.map (·.2))) := by
  refine ⟨fun pins s σ H Q I h => ?_⟩
  rw [arm_eval_DictComp]
  refine dq_core hu hc hN I hi ok hg ht hk he hs h fun D C s' m H' I' q hn f => ⟨m, hn, fun h'' sb => ?_⟩
  obtain ⟨f0, f1, f2, f3, f4, f5⟩ := f
  exact ⟨.ref D, H', I'.turned (t' := s'.toks) (fun b o hb e => (sb.2 b hb).trans e) f0 f1 f3 f4 f5, rfl, q⟩
/-- over a tuple that stays -/
theorem dq_tup {K : PySem.W.Frag} {a : Addr} {xs : List V} {g : TG} {tt : TT} {tk tv : TE} {vs : List Nat} {σ : L2.St} {H1 : Hp} {D : Addr} {Qd : Hp → Prop} (Pv : Nat → Hp → Prop) (h0 : Pv 0 (upd H1 D (.dT []))) (hl : ∀ i H, i ≤ xs.length → Pv i H → SqT K H a xs)
    (hs : ∀ i x H, xs[i]? = some x → Pv i H → g x (wipe σ vs) H fun σ2 H2 => wipe σ2 vs = wipe σ vs ∧ tt σ2 H2 fun b H3 =>
      if b = true then tk σ2 H3 fun y H4 => tv σ2 H4 fun z H5 => ∃ (kvs : List (List L2.Key × V)) (k : List L2.Key) (b : Addr), y = .ref b ∧ H5 b = some (.tup (k.map kV)) ∧ H5 D = some (.dT kvs) ∧ kvs.length < sizeLine ∧ Pv (i + 1) (upd H5 D (.dT (putK kvs k z))) else Pv (i + 1) H3) (hd : ∀ H, Pv xs.length H → Qd H) :
    ∃ W : Nat → Nat → Hp → Prop, (∃ m, W 0 m (upd H1 D (.dT []))) ∧ ∀ i m H, W i m H →
      ((Itt K a).stop i H ∧ Qd H) ∨ ((Itt K a).go i H ∧ ∃ Nx : Hp → Prop, (∀ H', Nx H' → ∃ m', m' < m ∧ W (i + 1) m' H') ∧ ∀ x H', (Itt K a).yld i H x H' → g x (wipe σ vs) H' fun σ2 H2 => wipe σ2 vs = wipe σ vs ∧ tt σ2 H2 fun b H3 =>
        if b = true then tk σ2 H3 fun y H4 => tv σ2 H4 fun z H5 => ∃ (kvs : List (List L2.Key × V)) (k : List L2.Key) (b : Addr), y = .ref b ∧ H5 b = some (.tup (k.map kV)) ∧ H5 D = some (.dT kvs) ∧ kvs.length < sizeLine ∧ Nx (upd H5 D (.dT (putK kvs k z))) else Nx H3) := by
  refine ⟨fun i m H => m = xs.length - i ∧ i ≤ xs.length ∧ Pv i H, ⟨xs.length, by simp, Nat.zero_le _, h0⟩, ?_⟩
  rintro i m H ⟨rfl, hi, p⟩
  have q := hl i H hi p
  by_cases hlt : i < xs.length
  · refine .inr ⟨⟨xs, xs[i], q, by simp [hlt]⟩, Pv (i + 1), fun H' p' => ⟨xs.length - (i + 1), by omega, rfl, hlt, p'⟩, fun x H' y => ?_⟩
    obtain ⟨e, y⟩ := y
    subst e
    exact hs i x _ (y xs q) p
  · have e : i = xs.length := by omega
    subst e
    exact .inl ⟨⟨xs, q, Nat.le_refl _⟩, hd H p⟩
end
end Y
/-! part A3 -/
/-! An own error over an own base over ValueError, whose __init__ says super().__init__(a text) and stores its argument as "at". -/
namespace PySem
namespace ErX
open PySem.W PySem.Calls PyProof.Rows PySem.HandSPX
def iA (p1 p2 : Pos) : Arguments := { posonlyargs := [], args := [{ arg := "self", annotation := none, pos := p1 }, { arg := "at", annotation := none, pos := p2 }], vararg := none, kwonlyargs := [], kw_defaults := [], kwarg := none, defaults := [] }
def iB (msg : Str) (q1 q2 q3 q4 q5 q6 r1 r2 r3 r4 : Pos) (kk : Nat) : List Stmt :=
  [.Expr (.Call (.Attribute (.Call (.Name "super" q1) [] [] q2) "__init__" q3) [.Constant (.str msg) kk q4] [] q5) q6, .Assign [.Attribute (.Name "self" r1) "at" r2] (.Name "at" r3) r4]
def iS : Scope := { kind := .function, names := [(PySem.Str.ofString "self", .local), (PySem.Str.ofString "at", .local), (PySem.Str.ofString "__class__", .free), (PySem.Str.ofString "super", .globalImplicit)], isGenerator := false, isCoroutine := false, more := [] }
def HeOk (msg : Str) (q1 q2 q3 q4 q5 : Pos) (kk : Nat) : Prop := ∃ pl : Sem Bool, ∀ env, eval (.Call (.Attribute (.Call (.Name "super" q1) [] [] q2) "__init__" q3) [.Constant (.str msg) kk q4] [] q5) env = (do
      let ov ← attributeBase (.Call (.Name "super" q1) [] [] q2) "__init__" env (eval (.Call (.Name "super" q1) [] [] q2) env)
      standAt q3.atName
      let (f, first) ← holding [ov] (getMethod ov "__init__" pl)
      callWith q5 f first (backTo q5 (starEach [.Constant (.str msg) kk q4] env)) [])
/-- what the written part says of the class nm at C; its __init__ at fI, with the cell cc -/
structure ErrTxt (prog : Program) (K : Frag) (mg : Str → Option Value) (nm : Str) (C fI cc cda : Addr) : Prop where
  gC : mg nm = some (.ref C)
  cls : ∃ n q N bs bm sn sub ab col dd k0 k1 k2 k3 k5, K.lookup C = some (excClassObj n q C N bs bm true sn sub ab col dd k0 k1 k2 k3 k5 "ValueError.__new__") ∧ refsVE bm = true
  sa : findIn K (.ref C) "__setattr__" = some (some (.builtin "object.__setattr__"))
  ga : findIn K (.ref C) "__getattribute__" = some (some (.builtin "BaseException.__getattribute__"))
  gg : findIn K (.ref C) "__getattr__" = some none
  noN : findIn K (.ref C) "at" = some none
  iC : findIn K (.ref C) "__init__" = some (some (.ref fI))
  tC : typeIn K (.ref fI) = some (.type "function")
  kC : keepIn K (.ref C) = true
  exC : subIn K (.ref C) (.type "BaseException") = some true
  veC : subIn K (.ref C) (.type "ValueError") = some true
  tyC : typeIn K (.ref C) = some (.type "type")
  hdC : hasDictIn K C = true
  suC : ks_superIn K C C "__init__" = some (some (.builtin "ValueError.__init__"))
  me : mroIn K C (.ref C) = some true
  ns : nsIn K mainGlobals "super" = some none
  no : nsIn K cStatics "thirdparty.any" = some none
  fn : ∃ (qn : Str) (oc : Value) (od : Option Addr) (doc pm : Value) (an : Option Addr) (ct : Value) (osl : Array (Option Value)) (msg : Str) (p1 p2 q1 q2 q3 q4 q5 q6 r1 r2 r3 r4 : Pos) (kk : Nat),
    K.lookup fI = some ⟨oc, od, .func (ksFn "__init__" qn (iA p1 p2) (iB msg q1 q2 q3 q4 q5 q6 r1 r2 r3 r4 kk) iS .none .none doc pm an (.ref cda) ct cc), osl⟩ ∧ codeIn K (.ref cda) qn = true ∧ HeOk msg q1 q2 q3 q4 q5 kk
  cell : ∃ (cl : Value) (cld : Option Addr) (csl : Array (Option Value)), K.lookup cc = some ⟨cl, cld, .cell (some (.ref C)), csl⟩
  code : ∃ (ccl : Value) (cdd : Option Addr) (vs : Array Value) (ccs : Array (Option Value)) (file : Str) (tf : Tok), K.lookup cda = some ⟨ccl, cdd, .fields vs, ccs⟩ ∧ vs[2]? = some (.str file tf) ∧ ((prog.main.file : Str) == file) = true
  top : (prog.main.scope.names.lookup ("super" : Str)).isSome = false
theorem iS_cell : ∀ x ∈ iS.names, x.2 ≠ .cell := by decide +kernel
theorem iS_self : iS.names.lookup ("self" : Str) = some .local := by decide +kernel
theorem iS_at : iS.names.lookup ("at" : Str) = some .local := by decide +kernel
theorem iS_super : iS.names.lookup ("super" : Str) = some .globalImplicit := by decide +kernel
theorem iS_cls : iS.names.lookup ("__class__" : Str) = some .free := by decide +kernel
theorem iS_loc (a b : Value) : ∀ y ∈ [(("self" : Str), a), (("at" : Str), b)], iS.names.lookup y.1 = some .local := fun y hy => by
  rcases List.mem_cons.mp hy with rfl | hy
  · exact iS_self
  · rcases List.mem_cons.mp hy with rfl | hy
    · exact iS_at
    · cases hy
theorem one_size (v : Value) : [v].length ≤ sizeLine := by
  rw [sizeLine_eq]
  exact (by decide : 1 ≤ 16777216)
/-- what __init__ leaves of a fresh exception at x -/
structure InitEnd (h h' : Heap) (x C dx t1 : Addr) (v : Value) : Prop where
  keep : ∀ b o, b ≠ x → h.get? b = some o → h'.get? b = some o
  obj : h'.get? x = some { cls := .ref C, dict := some dx, data := .fields #[.ref t1, .none, .none, .none, .bool false, .none] }
  dbig : h.objs.size ≤ dx
  dne : dx ≠ x
  ns : h'.Ns1 dx (fun y => if y = "at" then some v else none)
section
variable {prog : Program} {w : World} {A : Around} {E : Value → Shared → Prop} {R : Result → Shared → Prop} {K : Frag} {mg mb : Str → Option Value} {nm : Str} {C fI cc cda : Addr}
theorem call_bwV {n q : Str} {N u e t0 : Addr} {bs bm : List Value} {sn : List Str} {sub : List Value} {ab : Bool} {col : Option Bool} {dd : Option Addr} {k0 k1 k2 k3 k5 : Option Value} {rest : List Value} {h : Heap} {g : Array GenState} {d : Drawn} {t : Nat} {os : OsState} {Q : Value → Shared → Prop}
    (hC : h.get? C = some (excClassObj n q C N bs bm true sn sub ab col dd k0 k1 k2 k3 k5 "ValueError.__new__")) (he : h.get? e = some (excO C t0)) (hu : h.get? u = some (kxs_mw "ValueError.__init__" e)) (hrest : rest.length ≤ sizeLine)
    (hq : ∀ h' t1, (∀ b o, b ≠ e → h.get? b = some o → h'.get? b = some o) → h'.get? e = some (excO C t1) → Q .none ⟨h', g, d, t, os⟩) :
    wpAny (model prog w) A (call (.ref u) rest) Q E ⟨h, g, d, t, os⟩ := by
  refine wpAny_call (codeAny_of_tree ?_)
  show wpAny _ A.in1 (callAny (.ref u) ⟨rest, []⟩) _ _ _
  simp only [callAny]
  refine wpAny_bind (wpAny_load hu ?_)
  simp only [kxs_mw, show (Value.type "method-wrapper" == Value.type "method" || Value.type "method-wrapper" == Value.type "builtin_function_or_method" || Value.type "method-wrapper" == Value.type "method-wrapper") = true by decide, if_true]
  refine KFB.if_so (by decide) ?_
  refine wpAny_bind (check_bound_init F.excBase_ValueError.toExcCallFacts hC he rfl ?_)
  refine wpAny_bind (wpAny_pure (wpAny_pure ?_))
  refine ⟨plainId_quiet F.excBase_ValueError.init.plain _, codeAny_builtin F.excBase_ValueError.initEntry ?_⟩
  refine exc_init_tree (cls := .ref C) (t0 := t0) (dv := none) (c2 := .none) (c3 := .none) (b4 := .bool false) he hrest fun h' k e' _ => hq h' h.objs.size k e'
theorem err_init (T : ErrTxt prog K mg nm C fI cc cda) {s : Shared} {x t0 : Addr} {v : Value} (X : K.In s.heap) (hlim : s.heap.NoLimit) (G : s.heap.Ns mainGlobals mg) (B : s.heap.Ns builtinsNs mb) (hB : mb "super" = some (.type "super"))
    (hx : s.heap.get? x = some (excO C t0)) (hnx : K.lookup x = none) (hroom : A.depth < recursionLimit)
    (hq : ∀ h' tk dx t1, InitEnd s.heap h' x C dx t1 v → R (.ok (.ret .none)) { s with heap := h', toks := tk }) :
    codeAny (model prog w) A (.call (.ref fI) ⟨[.ref x, v], []⟩) R s := by
  obtain ⟨qn, oc, od, doc, pm, an, ct, osl, msg, p1, p2, q1, q2, q3, q4, q5, q6, r1, r2, r3, r4, kk, ho, hcd, pl, hhe⟩ := T.fn
  obtain ⟨n, q, N, bs, bm, sn, sub, ab, col, dd, k0, k1, k2, k3, k5, hC, hbm⟩ := T.cls
  obtain ⟨cl, cld, csl, hcell⟩ := T.cell
  obtain ⟨ccl, cdd, vs, ccs, file, tf, hcode, hvs, hfile⟩ := T.code
  have hcl : clsIn K C = some { name := n, bases := bs, mro := .ref C :: bm, ns := N, qualname := q, hasDict := true, slotNames := sn, subclasses := sub, abstract := ab, collection := col, hasDel := false } := by unfold clsIn; rw [hC] <;> rfl
  have hxC : x ≠ C := fun z => by rw [z, hC] at hnx; cases hnx
  refine ks_codeAny_call_defAt (args := ⟨[.ref x, v], []⟩) (fd := ksFn "__init__" qn (iA p1 p2) (iB msg q1 q2 q3 q4 q5 q6 r1 r2 r3 r4 kk) iS .none .none doc pm an (.ref cda) ct cc) (body := iB msg q1 q2 q3 q4 q5 q6 r1 r2 r3 r4 kk) (binds := [("self", .ref x), ("at", v)])
    hroom (X _ _ ho) rfl hlim (codeRec_of X hcd) rfl (BindsTo.of_eq (by first | rfl | with_unfolding_all rfl)) iS_cell (iS_loc _ _) (fun h₁ hns hk => ?_) rfl rfl rfl
  show _root_.PySem.wpAt (model prog w) _ (.func (iB msg q1 q2 q3 q4 q5 q6 r1 r2 r3 r4 kk) (ksEnv qn iS s.heap.objs.size fI (.ref cda) cc)) (execs (iB msg q1 q2 q3 q4 q5 q6 r1 r2 r3 r4 kk) (ksEnv qn iS s.heap.objs.size fI (.ref cda) cc)) _ _ _
  have X₁ : K.In h₁ := X.keeps hk
  have hx₁ := hk _ _ hx
  have hself : (fun y => ([(("self" : Str), Value.ref x), (("at" : Str), v)] : List (Str × Value)).reverse.lookup y) ("self" : Str) = some (.ref x) := by
    show List.lookup ("self" : Str) [(("at" : Str), v), (("self" : Str), Value.ref x)] = _
    simp only [List.lookup, show (("self" : Str) == "at") = false by decide +kernel, show (("self" : Str) == "self") = true by decide +kernel]
  have hatv : (fun y => ([(("self" : Str), Value.ref x), (("at" : Str), v)] : List (Str × Value)).reverse.lookup y) ("at" : Str) = some v := by
    show List.lookup ("at" : Str) [(("at" : Str), v), (("self" : Str), Value.ref x)] = _
    simp only [List.lookup, show (("at" : Str) == "at") = true by decide +kernel]
  refine ks_wpAt_execs_cons (ks_wpAt_Expr_any (ks_wpAt_MethodCall (pl := pl) ?_ (hhe _)))
  obtain ⟨oD, hD1, hD2⟩ : ∃ oD, h₁.get? C = some oD ∧ oD.data = .cls { name := n, bases := bs, mro := .ref C :: bm, ns := N, qualname := q, hasDict := true, slotNames := sn, subclasses := sub, abstract := ab, collection := col, hasDel := false } := ⟨_, X₁ _ _ hC, rfl⟩
  refine ks_wpAt_super_base (env := ksEnv qn iS s.heap.objs.size fI (.ref cda) cc) iS_super iS_cls (by decide +kernel) rfl (X₁ _ _ ho) rfl rfl rfl (X₁ _ _ hcode) rfl hvs hfile T.top ?_
  refine ks_loadName_global rfl iS_super (loadGlobal_builtin (env := ksEnv qn iS s.heap.objs.size fI (.ref cda) cc) (G.keeps hk) (mg_none_of X G T.ns) (B.keeps hk) hB ⟨rfl, ?_⟩)
  refine wpAny_loadName_free rfl iS_cls rfl ⟨_, X₁ _ _ hcell, rfl⟩ ?_
  refine wpAny_loadName_local rfl iS_self hns hself ?_
  refine ks_wpAny_isType_cls hD1 hD2 ⟨rfl, ?_⟩
  refine ks_wpAny_call_super hD1 hD2 hx₁ rfl (fun c e => by cases e) (looks_mroIn X₁ T.me) (fun h2 e2 k2 => ?_)
  have k02 : ∀ b o, s.heap.get? b = some o → h2.get? b = some o := fun b o e => k2 b o (hk b o e)
  have X2 : K.In h2 := X.keeps k02
  have hx2 := k02 _ _ hx
  have I2 : InstAt h2 x (excO C t0) C none := ⟨hx2, rfl, rfl, trivial⟩
  have suC : alongIn K "__init__" (((Value.ref C :: bm).dropWhile (· != .ref C)).drop 1) = some (some (.builtin "ValueError.__init__")) := by
    have z := T.suC
    unfold ks_superIn at z
    rw [hcl] at z
    exact z
  refine kxs_getMethod kxs_ValueError e2 (looks_opaque X2 T.no) (l₀ := .ref C :: bm) (fun A Q E s k q => wpAny_bind ((looks_clsIn X2 hcl) A _ E s k (wpAny_pure q))) rfl X2 suC (I2.type.andThen (looks_subIn X2 T.veC)) hxC (by decide +kernel) ?_
  refine kxs_callWith (i := "ValueError.__init__") (x := x) rfl (evalArgs_plain (Calls.spliced_cons (Calls.Constant_str (k := kk) (pos := q4) (Calls.spliced_nil ?_))))
  have hu3 : (h2.push (kxs_mw "ValueError.__init__" x)).get? h2.objs.size = some (kxs_mw "ValueError.__init__" x) := Heap.get?_push_at rfl rfl
  have k23 : ∀ b o, h2.get? b = some o → (h2.push (kxs_mw "ValueError.__init__" x)).get? b = some o := fun b o e => Heap.get?_push_of_some _ e
  refine ⟨hu3, call_bwV (k23 _ _ (X2 _ _ hC)) (k23 _ _ hx2) hu3 (one_size _) fun h4 t1 k4 hx4 => ?_⟩
  -- the store
  have nL : s.heap.objs.size ≠ x := Nat.ne_of_gt (Heap.lt_size hx)
  have X4 : K.In h4 := fun a o e => k4 a o (fun z => by rw [z, hnx] at e; cases e) (k23 _ _ (X2 _ _ e))
  obtain ⟨oL, esL, epL, hL, rL⟩ := id hns
  have hL4 : h4.get? s.heap.objs.size = some oL := k4 _ _ nL (k23 _ _ (k2 _ _ hL))
  have hns4 : h4.Ns s.heap.objs.size (fun y => ([(("self" : Str), Value.ref x), (("at" : Str), v)] : List (Str × Value)).reverse.lookup y) := ⟨oL, esL, epL, hL4, rL⟩
  refine ks_wpAt_execs_cons (ks_wpAt_Assign_Attr ?_)
  refine wpAt_of_wpAny (wpAny_Name (wpAny_loadName_local rfl iS_at hns4 hatv ?_) (by decide))
  refine wpAny_Name (wpAny_loadName_local rfl iS_self hns4 hself ?_) (by decide)
  refine set_plain X4 (ox := excO C t1) (od := none) ⟨hx4, rfl, rfl, trivial⟩ T.sa ?_
  refine HandSPX.exc_osa X4 hx4 hcl (show refsVE (.ref C :: bm) = true from hbm) rfl T.noN (fun h5 tk5 dx k5 dn dne hx5 hn5 => ?_)
  refine wpAt_of_wpAny (wpAny_execs_nil ?_)
  have big : s.heap.objs.size ≤ dx := Nat.le_of_lt (Nat.lt_of_lt_of_le (Heap.lt_size hL4) dn)
  exact hq h5 tk5 dx t1 ⟨fun b o hb e => k5 b o hb (k4 b o hb (k23 b o (k02 b o e))), hx5, big, dne, hn5⟩
end
end ErX
end PySem
/-! part A4 -/
/-! An own error made and raised, its field read; a try with several clauses, named or not. -/
namespace PySem
namespace ErX
open PySem.W PySem.Calls PyProof.Rows PySem.HandSPX
/-- a made error -/
structure Made (h h' : Heap) (e C d : Addr) (v : Value) : Prop where
  keep : ∀ b o, h.get? b = some o → h'.get? b = some o
  new : h.objs.size ≤ e
  obj : ∃ oe vs, h'.get? e = some oe ∧ oe.cls = .ref C ∧ oe.dict = some d ∧ oe.data = .fields vs ∧ vs[1]? = some .none
  dbig : h.objs.size ≤ d
  dne : d ≠ e
  ns : h'.Ns1 d (fun y => if y = "at" then some v else none)
section
variable {prog : Program} {w : World} {A : Around} {R : Result → Shared → Prop} {s : Shared} {K : Frag} {mg mb : Str → Option Value} {nm : Str} {C fI cc cda : Addr}
theorem err_made (T : ErrTxt prog K mg nm C fI cc cda) {v : Value} (X : K.In s.heap) (hlim : s.heap.NoLimit) (G : s.heap.Ns mainGlobals mg) (B : s.heap.Ns builtinsNs mb) (hB : mb "super" = some (.type "super")) (hroom : A.depth + 1 < recursionLimit)
    (hq : ∀ h' tk e d, Made s.heap h' e C d v → R (.ok (.ret (.ref e))) { s with heap := h', toks := tk }) :
    codeAny (model prog w) A (.call (.ref C) ⟨[v], []⟩) R s := by
  obtain ⟨n, q, N, bs, bm, sn, sub, ab, col, dd, k0, k1, k2, k3, k5, hC, hbm⟩ := T.cls
  obtain ⟨hp, g, dr, tk, os⟩ := s
  have k : ∀ b o, hp.get? b = some o → ((hp.push (kdv_tup [v])).push (excO C hp.objs.size)).get? b = some o := fun b o e => Heap.get?_push_of_some _ (Heap.get?_push_of_some _ e)
  have hget : ((hp.push (kdv_tup [v])).push (excO C hp.objs.size)).get? (hp.objs.size + 1) = some (excO C hp.objs.size) := by heap_get
  have hnx : K.lookup (hp.objs.size + 1) = none := by
    cases e : K.lookup (hp.objs.size + 1) with
    | none => rfl
    | some o =>
      have z : hp.get? (hp.objs.size + 1) = some o := X _ _ e
      exact absurd (Nat.lt_of_succ_lt (Heap.lt_size z)) (Nat.lt_irrefl _)
  refine call_own F.excBase_ValueError (fun X => refsVE_contains X bm hbm) (X _ _ hC) (looks_findIn X T.iC) (fun self => bind_fn X self T.tC) (one_size v) ?_
  refine err_init (s := ⟨(hp.push (kdv_tup [v])).push (excO C hp.objs.size), g, dr, tk, os⟩) T (X.keeps k) (hlim.keeps k) (G.keeps k) (B.keeps k) hB hget hnx ?_ fun h' tk' dx t1 ⟨k', hx, dn, dne, hns⟩ => ?_
  · show A.depth + 1 < recursionLimit
    exact hroom
  · have old : ∀ b o, hp.get? b = some o → h'.get? b = some o := fun b o e => k' b o (Nat.ne_of_lt (Nat.lt_succ_of_lt (Heap.lt_size e))) (k b o e)
    have z : hp.objs.size + 1 + 1 ≤ dx := by
      first
        | (simpa only [Heap.size_push] using dn)
        | exact dn
        | (have q := dn; rw [Heap.size_push, Heap.size_push] at q; exact q)
    exact ⟨rfl, hq h' tk' (hp.objs.size + 1) dx ⟨old, Nat.le_succ _, ⟨_, _, hx, rfl, rfl, rfl, rfl⟩, Nat.le_trans (Nat.le_trans (Nat.le_succ _) (Nat.le_succ _)) z, dne, hns⟩⟩
end
end ErX
end PySem
namespace Y
open PySem L2 PySem.Spec PyProof.Rows
theorem relO_at {v : V} {v' : Value} (r : RelV v v') (f : Str) : RelO (List.lookup f [(("at" : Str), v)]) (if f = "at" then some v' else none) := by
  by_cases hw : f = "at"
  · subst hw
    rw [if_pos rfl]
    have q : List.lookup ("at" : Str) [(("at" : Str), v)] = some v := by simp [List.lookup]
    rw [q]
    exact r
  · rw [if_neg hw]
    have qw : (f == ("at" : Str)) = false := by simpa using hw
    have q2 : List.lookup f [(("at" : Str), v)] = none := by simp [List.lookup, qw]
    rw [q2]
    trivial
section
variable {X : Cx} {nm : Str} {C fI cc cda : Addr}
/-- nm(e), an error -/
def tMkErr (C : Addr) (ta : TA) : L2.St → Hp → XK → Prop := fun σ H Q => ta σ H fun vs H1 => ∃ v, vs = [v] ∧ ∀ d, H1 d = none → Q (.ref C) (some d) (upd H1 d (.xd [(("at" : Str), v)]))
theorem pmk_err {a : Expr} {ta : TA} {p pos : Pos} {k : Nat} (T : PySem.ErX.ErrTxt X.prog X.K X.mg nm C fI cc cda) (hr : Room k X.A) (ha : PA X [a] ta) (hg : Gl X nm) (hdb : (nm == ("__debug__" : Str)) = false)
    (he : starEach (a :: []) X.env = (false, eval a X.env) :: starEach [] X.env := by rfl) (hpl : (backTo pos (starEach [] X.env)).any (·.1) = false := by rfl) :
    PMk X (.Call (.Name nm p) [a] [] pos) (tMkErr C ta) := by
  intro pins s σ H Q I h
  refine wpAny_Call_Name_kw (ld_glob I hg T.gC ?_ hdb)
  refine PySem.W.callWith_K (h₀ := X.base) I.ok.mod.kin T.kC (thn (ha.run pos pins s σ H _ I h) fun us s1 hh => ?_) he hpl
  obtain ⟨vs, H1, I1, r1, v, ev, q1⟩ := hh
  subst ev
  refine ⟨I1.kIn, ?_⟩
  cases r1 with
  | cons rv rn =>
    rename_i v' us'
    cases rn
    show wpAny _ _ (call (.ref C) [v']) _ _ _
    have hlim := I1.nolimit
    obtain ⟨mb, hmb, hbb⟩ := I1.mod.blt
    have G1 := I1.mod.glob.keeps I1.bk
    have B1 := hmb.keeps I1.bk
    obtain ⟨hp, g, dr, tk, os⟩ := s1
    refine wpAny_call (PySem.ErX.err_made T I1.kIn hlim G1 B1 ((hbb "super" (by decide)).trans (by decide +kernel)) (by have := hr.dp; omega) fun h' tk' e d M => ?_)
    show MkP X pins σ Q (.ref e) ⟨h', g, dr, tk', os⟩
    obtain ⟨oe, fv, hoe, hc, hd, hdat, h1⟩ := M.obj
    have hns := M.ns
    obtain ⟨G', g1, g2⟩ := restrict h' fun b => decide (b ≠ e)
    have gk : ∀ b, b ≠ e → G'.get? b = h'.get? b := fun b hb => g1 b (decide_eq_true hb)
    have ge : G'.get? e = none := g2 e (by simp)
    have old : ∀ b o, hp.get? b = some o → G'.get? b = some o := fun b o q => (gk b (Nat.ne_of_lt (Nat.lt_of_lt_of_le (Heap.lt_size q) M.new))).trans (M.keep b o q)
    have ob : ObjOk X.prog X.w (upd H1 d (.xd [(("at" : Str), v)])) G' d (.xd [(("at" : Str), v)]) :=
      ⟨_, hns.at (fun o q => (gk d M.dne).trans q), fun f => relO_at rv f⟩
    have J : Inv X pins σ (upd H1 d (.xd [(("at" : Str), v)])) ⟨G', g, dr, tk', os⟩ := I1.laid (t' := tk') old M.dbig ob
    refine ⟨e, oe, fv, ⟨G', g, dr, tk', os⟩, _, .ref C, some d, rfl, J, fun b o q => ?_, ge, hoe, ⟨hc, hd⟩, hdat, h1, ?_, rfl, I1.bare, raises_own T.exC T.tyC, q1 d (I1.hok.fresh M.dbig)⟩
    · by_cases hb : b = e
      · have q' : G'.get? b = some o := q
        rw [hb, ge] at q'; cases q'
      · exact (gk b hb).symm.trans q
    · rw [upd_ne (Ne.symm M.dne)]
      exact I1.hok.fresh M.new
/-- raise nm(e) -/
def tRaiseErr (C : Addr) (W : WX) (ta : TA) : TS := fun _ σ H => tMkErr C ta σ H fun cls d H' => W cls d σ H'
theorem ps_raiseErr {a : Expr} {ta : TA} {W : WX} {p pos pos2 : Pos} {k : Nat} (hc : X.calm = true) (T : PySem.ErX.ErrTxt X.prog X.K X.mg nm C fI cc cda) (hr : Room k X.A) (tk : Takes X W) (ha : PA X [a] ta) (hg : Gl X nm := by rfl)
    (hdb : (nm == ("__debug__" : Str)) = false := by decide) (he : starEach (a :: []) X.env = (false, eval a X.env) :: starEach [] X.env := by rfl) (hpl : (backTo pos (starEach [] X.env)).any (·.1) = false := by rfl) :
    PS X (.Raise (some (.Call (.Name nm p) [a] [] pos)) none pos2) (tRaiseErr C W ta) := ps_raise hc tk (pmk_err T hr ha hg hdb he hpl)
/-- err.at, err the error that the suite holds -/
def tByErr (C : Addr) (a : Addr) (cls : Value) (d : Option Addr) (te : TE) : TE := fun σ H Q => te σ H fun x H1 => x = .ref a ∧ cls = .ref C ∧ ∃ (dd : Addr) (v : V), d = some dd ∧ H1 dd = some (.xd [(("at" : Str), v)]) ∧ Q v H1
theorem pe_byErr {a : Addr} {oe : Obj} {cls : Value} {d : Option Addr} {pn : List (Addr × Obj)} {e : Expr} {te : TE} {pos : Pos} (T : PySem.ErX.ErrTxt X.prog X.K X.mg nm C fI cc cda) (hz : Zc cls d oe) (hf : ∃ vs, oe.data = .fields vs) (he : PE (X.suite a ((a, oe) :: pn)) e te)
    (hb : attributeBase e "at" X.env (eval e X.env) = eval e X.env := by rfl) :
    PE (X.suite a ((a, oe) :: pn)) (.Attribute e "at" pos) (tByErr C a cls d te) := by
  refine ⟨fun pins s σ H Q I h => ?_⟩
  refine attr_of hb (thn (he.run pins s σ H _ I h) fun u s1 hh => ?_)
  obtain ⟨x, H1, I1, rx, ex, ec, dd, v, ed, ea, q⟩ := hh
  subst ex
  obtain rfl : u = Value.ref a := rx
  subst ec
  subst ed
  obtain ⟨ha, _⟩ := I1.pin (a, oe) (List.mem_append_left _ List.mem_cons_self)
  obtain ⟨vs, hd⟩ := hf
  have hx : ObjOk X.prog X.w H1 s1.heap dd (.xd [(("at" : Str), v)]) := I1.hok dd _ ea
  obtain ⟨mA, hns, hr⟩ := hx
  obtain ⟨od, ho, hl⟩ := lookIn_ns hns
  have l : List.lookup ("at" : Str) [(("at" : Str), v)] = some v := by simp [List.lookup]
  obtain ⟨u, hu, ru⟩ := RelO.some_of (v := v) (o := mA "at") (by rw [← l]; exact hr "at")
  have J : PySem.W.InstAt s1.heap a oe C (some od) := ⟨ha, hz.1, by unfold PySem.W.notCls; rw [hd] <;> rfl, by rw [hz.2]; exact ho⟩
  exact HandSPX.exc_get I1.kIn J T.ga T.gg T.exC (PySem.W.findObj_own T.hdC T.noN rfl (by rw [hl, hu])) (handed_of ru) ⟨v, H1, I1.tok _, ru, q⟩
/-! ### a try with several clauses, named or not -/
abbrev Clause := Value × Option Nat × (Addr → Value → Option Addr → TS)
def endsAt (D : Ends) (i : Nat) : Ends := { nx := fun σ' H' => D.nx (σ'.set i none) H', rt := D.rt, bk := fun σ' H' => D.bk (σ'.set i none) H', ct := fun σ' H' => D.ct (σ'.set i none) H' }
def wL (K : PySem.W.Frag) (Wout : WX) (D : Ends) : List Clause → WX
  | [] => Wout
  | (c, none, ts) :: r => fun cls d σ H => ∃ b, PySem.W.exmOne K cls c = some b ∧ (b = true → ∀ a, H a = none → ts a cls d D σ H) ∧ (b = false → wL K Wout D r cls d σ H)
  | (c, some i, ts) :: r => fun cls d σ H => ∃ b, PySem.W.exmOne K cls c = some b ∧ (b = true → ∀ a, H a = none → ts a cls d (endsAt D i) (σ.set i (some (.ref a))) H) ∧ (b = false → wL K Wout D r cls d σ H)
inductive CsOk (X : Cx) : List ExceptHandler → List Clause → Prop
  | nil : CsOk X [] []
  | plain {x : Str} {c : Value} {ts : Addr → Value → Option Addr → TS} {b₀ : Stmt} {suite : List Stmt} {np pos' : Pos} {hds : List ExceptHandler} {l : List Clause} (hc : Names X x c)
      (hsu : ∀ (a : Addr) (oe : Obj) (cls : Value) (d : Option Addr) (pn : List (Addr × Obj)), Zc cls d oe → (∃ vs, oe.data = .fields vs) → PSs (X.suite a ((a, oe) :: pn)) (b₀ :: suite) (ts a cls d)) (r : CsOk X hds l) :
      CsOk X (.ExceptHandler (some (.Name x np)) none (b₀ :: suite) pos' :: hds) ((c, none, ts) :: l)
  | named {x n : Str} {c : Value} {i : Nat} {ts : Addr → Value → Option Addr → TS} {b₀ : Stmt} {suite : List Stmt} {np pos' : Pos} {hds : List ExceptHandler} {l : List Clause} (hi : X.N[i]? = some n) (hln : X.env.kindOf n = some .local) (hc : Names X x c)
      (hsu : ∀ (a : Addr) (oe : Obj) (cls : Value) (d : Option Addr) (pn : List (Addr × Obj)), Zc cls d oe → (∃ vs, oe.data = .fields vs) → PSs (X.suite a ((a, oe) :: pn)) (b₀ :: suite) (ts a cls d)) (r : CsOk X hds l) :
      CsOk X (.ExceptHandler (some (.Name x np)) (some n) (b₀ :: suite) pos' :: hds) ((c, some i, ts) :: l)
end
section
variable {X : Cx} {body : List Stmt} {h₀ : ExceptHandler} {hds : List ExceptHandler} {l : List Clause} {pos : Pos} {tb : WX → TS} {Wout : WX}
theorem ps_try_list (hs : X.stack = X.env :: X.outer) (hf : X.env.frame = some X.env.locals) (hN : X.N.Nodup) (tk : Takes X Wout)
    (hb : ∀ (W : WX) (pn : List (Addr × Obj)) (xe : Value → Shared → Prop), Takes (X.tr pn xe) W → PassesOwn (model X.prog X.w) X.A X.env xe → PSs (X.tr pn xe) body (tb W))
    (hh : CsOk X (h₀ :: hds) l) : PS X (.Try body (h₀ :: hds) [] [] pos) (fun D σ H => tb (wL X.K Wout D l) D σ H) := by
  refine ⟨fun pins s σ H D I h => ?_⟩
  have ok := I.ok
  have hfr : X.A.frames = some (X.env :: X.outer) := by rw [ok.frames, hs]
  refine wpAny_Try_except ?_
  refine wpAny_mono ((hb (wL X.K Wout D l) (X.pn ++ pins) (fun e s₁ => wpAny (model X.prog X.w) X.A (noteFrame e X.env) (fun _ s₂ => wpAny (model X.prog X.w) X.A (setFlight e none) (fun _ s₃ =>
    wpAny (model X.prog X.w) X.A (handleBy e X.env (h₀ :: hds)) (SP X pins D) X.xe s₃) X.xe s₂) X.xe s₁) (fun u s' xx => ?_) PassesOwn.looking).run [] s σ H D (I.toTry _) h) (fun f s1 hsp => ?_) (fun e s1 he => he)
  · obtain ⟨a, B, sI, pins', σ', H', cls, d, rfl, J', nb, up, sky, na, os, ag, w⟩ := xx
    have J : Inv X pins σ' H' sI := J'.ofTry ok
    have sky' : Sky B (X.env :: X.outer) a (Zc cls d) X.env.locals s'.heap := by rw [← hs]; exact sky
    show wpAny (model X.prog X.w) X.A (noteFrame (.ref a) X.env) _ _ _
    refine Sky.land Zc.steady hfr hf sky' fun h3 fl3 up3 => ?_
    have J3 : Inv X pins σ' H' { s' with heap := h3 } := J.landed nb fl3.1 (up.trans up3) os ag
    obtain ⟨oe3, vs3, he3, hz3, hd3⟩ := fl3.there
    have notFr : ∀ {h : Heap} {o : Obj} {vs : Array Value}, h.FunFrames B (X.env :: X.outer) → h.get? a = some o → o.data = .fields vs → a ∉ frs (X.env :: X.outer) := fun {h o vs} ff e dd hm => by
      obtain ⟨_, o', e', hnf⟩ := ff.mem hm
      rw [e] at e'; cases e'
      exact hnf _ dd
    have nfr := notFr fl3.2.2.1 he3 hd3
    have nL : a ≠ X.env.locals := fun z => nfr (List.mem_filterMap.mpr ⟨X.env, List.mem_cons_self, by rw [hf, z]⟩)
    have nF : a ∉ X.fs := fun hm => by
      obtain ⟨e, he, q⟩ := List.mem_filterMap.mp hm
      exact nfr (List.mem_filterMap.mpr ⟨e, List.mem_cons_of_mem _ he, q⟩)
    have S3 := J3.suite he3 hd3 na nL nF
    have LT : PySem.W.Looks (model X.prog X.w) h3 (typeOf (.ref a)) cls := fun A Q E s k q => wpAny_typeOf_ref (k _ _ he3) (by rw [hz3.1]; exact q)
    have test : ∀ {x : Str} {c : Value} {np : Pos} {Q : Value → Shared → Prop} {E : Value → Shared → Prop}, Names X x c → Q c { s' with heap := h3 } → wpAny (model X.prog X.w) (X.A.mark (some (.ref a))) (eval (.Name x np) X.env) Q E { s' with heap := h3 } := fun {x c np Q E} hc q => by
      obtain ⟨hg, hdbg, hm | ⟨hm, hv, hnn⟩⟩ := hc
      · exact ld_glob (X := X.suite a ((a, oe3) :: (X.pn ++ pins))) S3 hg hm q hdbg
      · exact ld_blt (X := X.suite a ((a, oe3) :: (X.pn ++ pins))) S3 hg hm hv q hnn hdbg
    have go : ∀ {hds' : List ExceptHandler} {l' : List Clause}, CsOk X hds' l' → wL X.K Wout D l' cls d σ' H' →
        wpAny (model X.prog X.w) X.A (handleBy (.ref a) X.env hds') (SP X pins D) X.xe { s' with heap := h3 } := by
      intro hds' l' hk
      induction hk with
      | nil =>
        intro w
        refine wpAny_handleBy_nil ?_
        obtain ⟨k1, k2, k3, oe, vs, T, oT, ts', he, hz, hd, h1, hr⟩ := id fl3
        unfold PySem.passOn
        refine wpAny_bind (wpAny_field he hd h1 ?_)
        rw [if_neg (show ¬ ((Value.ref T == Value.none) = true) from by simp)]
        have fin : wpAny (model X.prog X.w) X.A (setFlight (.ref a) X.env.frame) (fun _ s4 => wpAny (model X.prog X.w) X.A (throw (.ref a) : Sem Flow) (SP X pins D) X.xe s4) X.xe { s' with heap := h3 } := by
          rw [hf]
          refine HandSPX.setFlight_upZ fl3 fun h4 hh4 up4 => wpAny_throw (tk _ _ ?_)
          exact ⟨a, B, sI, pins, σ', H', cls, d, rfl, J, nb, (up.trans up3).trans up4, .inr (.inr (by rw [hs]; exact hh4)), na, os, ag, w⟩
        first
          | exact wpAny_bind (wpAny_pure (wpAny_bind fin))
          | exact wpAny_bind fin
      | @plain x c ts b₀ suite np pos' hds2 l2 hc hsu r ih =>
        intro w
        obtain ⟨b, hb1, hyes, hno⟩ := w
        refine wpAny_handleBy_cons (codeAny_handlers_test ?_) (by intro q; cases q)
        have LM := PySem.W.exm_one (M := model X.prog X.w) (J3.kIn) LT hb1
        refine test hc (LM.here ?_)
        cases b with
        | true =>
          refine codeAny_handlers_suite ?_
          refine HandSPX.lands_againZ fl3 fun h4 fl4 up4 => ?_
          have J4 : Inv X pins σ' H' { s' with heap := h4 } := J.landed nb fl4.1 ((up.trans up3).trans up4) os ag
          obtain ⟨oe4, vs4, he4, hz4, hd4⟩ := fl4.there
          have S4 := J4.suite he4 hd4 na nL nF
          refine wpAny_mono ((hsu a oe4 cls d (X.pn ++ pins) hz4 ⟨_, hd4⟩).run [] _ _ H' _ S4 (hyes rfl a na)) (fun f s6 hsp => ?_) (fun _ _ z => False.elim z)
          cases f with
          | next =>
            obtain ⟨σ6, H6, S6, q6⟩ := hsp
            exact ⟨_, _, S6.unsuite ok, q6⟩
          | brk =>
            obtain ⟨σ6, H6, S6, q6⟩ := hsp
            exact ⟨_, _, S6.unsuite ok, q6⟩
          | cont =>
            obtain ⟨σ6, H6, S6, q6⟩ := hsp
            exact ⟨_, _, S6.unsuite ok, q6⟩
          | ret u =>
            obtain ⟨v6, σ6, H6, S6, r6, q6⟩ := hsp
            exact ⟨_, _, _, S6.unsuite ok, r6, q6⟩
        | false =>
          show wpAny _ X.A (handleBy (.ref a) X.env hds2) _ _ _
          exact ih (hno rfl)
      | @named x n c i ts b₀ suite np pos' hds2 l2 hi hln hc hsu r ih =>
        intro w
        obtain ⟨b, hb1, hyes, hno⟩ := w
        refine wpAny_handleBy_cons (codeAny_handlers_test ?_) (by intro q; cases q)
        have LM := PySem.W.exm_one (M := model X.prog X.w) (J3.kIn) LT hb1
        refine test hc (LM.here ?_)
        cases b with
        | true =>
          refine codeAny_handlers_suite_as ?_
          refine HandSPX.lands_againZ fl3 fun h4 fl4 up4 => ?_
          have J4 : Inv X pins σ' H' { s' with heap := h4 } := J.landed nb fl4.1 ((up.trans up3).trans up4) os ag
          obtain ⟨oe4, vs4, he4, hz4, hd4⟩ := fl4.there
          have S4 := J4.suite he4 hd4 na nL nF
          refine store_ok (X := X.suite a ((a, oe4) :: (X.pn ++ pins))) (v := .ref a) S4 hN hi (.inl hln) rfl (fun s5 S5 => ?_) (.inr hln)
          refine wpAny_mono ((hsu a oe4 cls d (X.pn ++ pins) hz4 ⟨_, hd4⟩).run [] s5 _ H' _ S5 (hyes rfl a na)) (fun f s6 hsp => ?_) (fun _ _ z => False.elim z)
          have end_ : ∀ {σ6 : L2.St} {H6 : Hp} {Q : Shared → Prop}, Inv (X.suite a ((a, oe4) :: (X.pn ++ pins))) [] σ6 H6 s6 → (∀ s7, Inv X pins (σ6.set i none) H6 s7 → Q s7) →
              wpAny (model X.prog X.w) X.A (do bindName X.env n .none; unbindBehindTheSuite X.env n pos') (fun _ s7 => Q s7) X.xe s6 := fun {σ6 H6 Q} S6 hq => gone_ok (S6.unsuite ok) hN hi hln hq
          cases f with
          | next =>
            obtain ⟨σ6, H6, S6, q6⟩ := hsp
            exact end_ S6 fun s7 J7 => ⟨_, _, J7, q6⟩
          | brk =>
            obtain ⟨σ6, H6, S6, q6⟩ := hsp
            exact end_ S6 fun s7 J7 => ⟨_, _, J7, q6⟩
          | cont =>
            obtain ⟨σ6, H6, S6, q6⟩ := hsp
            exact end_ S6 fun s7 J7 => ⟨_, _, J7, q6⟩
          | ret u =>
            obtain ⟨v6, σ6, H6, S6, r6, q6⟩ := hsp
            exact end_ S6 fun s7 J7 => ⟨_, _, _, J7, r6, q6⟩
        | false =>
          show wpAny _ X.A (handleBy (.ref a) X.env hds2) _ _ _
          exact ih (hno rfl)
    exact go hh w
  · cases f with
    | next =>
      obtain ⟨σ', H', J', q⟩ := hsp
      exact wpAny_execs_nil ⟨σ', H', J'.ofTry ok, q⟩
    | brk =>
      obtain ⟨σ', H', J', q⟩ := hsp
      exact ⟨σ', H', J'.ofTry ok, q⟩
    | cont =>
      obtain ⟨σ', H', J', q⟩ := hsp
      exact ⟨σ', H', J'.ofTry ok, q⟩
    | ret u =>
      obtain ⟨v, σ', H', J', r, q⟩ := hsp
      exact ⟨v, σ', H', J'.ofTry ok, r, q⟩
end
end Y
/-! part A5 -/
/-! More rules: defs and classes under their names, targets that are attributes or a dict's places, list(range(a, b, c)); operators of any kind in one; short forms of what the readings ask. -/
namespace Y
open PySem L2 PySem.Spec PyProof.Rows
/-! ### defs, methods, classes of the text -/
structure Cal (P : Program) (w : World) (K : PySem.W.Frag) (mg : Str → Option Value) (base : Heap) (k : Nat) (x : Str) (sp : Sp) : Prop where
  ex : ∃ (f : Addr) (fd : FuncData) (ps : List Str), FnOk P w K mg base (L2.CX P w) k f fd ps sp ∧ mg x = some (.ref f) ∧ PySem.W.keepIn K (.ref f) = true ∧ Binds K fd ps []
structure Met (P : Program) (w : World) (K : PySem.W.Frag) (mg : Str → Option Value) (base : Heap) (k : Nat) (C : Addr) (m : Str) (sp : Sp) : Prop where
  ex : ∃ (f : Addr) (fd : FuncData) (ps : List Str), Cls K C ∧ Meth K C m f ∧ FnOk P w K mg base (L2.CX P w) k f fd ps sp ∧ Binds K fd ps []
structure Mak (P : Program) (w : World) (K : PySem.W.Frag) (mg : Str → Option Value) (base : Heap) (k : Nat) (x : Str) (C : Addr) (sp : Sp) : Prop where
  ex : ∃ (f : Addr) (fd : FuncData) (ps : List Str), Mk K C f ∧ FnOk P w K mg base (L2.CX P w) k f fd ps sp ∧ mg x = some (.ref C) ∧ Binds K fd ps []
section
variable {X : Cx} {k j : Nat} {C : Addr} {x m : Str} {sp : Sp} {p pos apos : Pos} {e o : Expr} {es : List Expr} {ta : TE} {t : TA} {E : XK}
/-- nothing is let out of the call -/
theorem pe_c (c : Cal X.prog X.w X.K X.mg X.base k x sp) (hr : Room j X.A) (hk : k ≤ j) (hg : Gl X x) (ha : PA X (e :: es) t)
    (hdb : (x == ("__debug__" : Str)) = false := by decide) (he : starEach (e :: es) X.env = (false, eval e X.env) :: starEach es X.env := by rfl) (hpl : (backTo pos (starEach es X.env)).any (·.1) = false := by rfl) :
    PE X (.Call (.Name x p) (e :: es) [] pos) (tCall sp [] E0 t) := by
  obtain ⟨f, fd, ps, F, hm, kp, b⟩ := c.ex
  exact pe_call F (hr.mono hk) hg hm kp b .nil passL ha hdb he hpl
/-- what is raised is let out -/
theorem pe_cX (c : Cal X.prog X.w X.K X.mg X.base k x sp) (hr : Room j X.A) (hk : k ≤ j) (hx : Passes (L2.CX X.prog X.w) X E) (hg : Gl X x) (ha : PA X (e :: es) t)
    (hdb : (x == ("__debug__" : Str)) = false := by decide) (he : starEach (e :: es) X.env = (false, eval e X.env) :: starEach es X.env := by rfl) (hpl : (backTo pos (starEach es X.env)).any (·.1) = false := by rfl) :
    PE X (.Call (.Name x p) (e :: es) [] pos) (tCall sp [] E t) := by
  obtain ⟨f, fd, ps, F, hm, kp, b⟩ := c.ex
  exact pe_call F (hr.mono hk) hg hm kp b .nil hx ha hdb he hpl
theorem pe_mkX (c : Mak X.prog X.w X.K X.mg X.base k x C sp) (hr : Room j X.A) (hk : k + 1 ≤ j) (hx : Passes (L2.CX X.prog X.w) X E) (hg : Gl X x) (ha : PA X (e :: es) t)
    (hdb : (x == ("__debug__" : Str)) = false := by decide) (he : starEach (e :: es) X.env = (false, eval e X.env) :: starEach es X.env := by rfl) (hpl : (backTo pos (starEach es X.env)).any (·.1) = false := by rfl) :
    PE X (.Call (.Name x p) (e :: es) [] pos) (tMake C sp [] E t) := by
  obtain ⟨f, fd, ps, M, F, hm, b⟩ := c.ex
  exact pe_make M F (hr.mono hk) hg hm b .nil hx ha hdb he hpl
theorem pe_mk (c : Mak X.prog X.w X.K X.mg X.base k x C sp) (hr : Room j X.A) (hk : k + 1 ≤ j) (hg : Gl X x) (ha : PA X (e :: es) t)
    (hdb : (x == ("__debug__" : Str)) = false := by decide) (he : starEach (e :: es) X.env = (false, eval e X.env) :: starEach es X.env := by rfl) (hpl : (backTo pos (starEach es X.env)).any (·.1) = false := by rfl) :
    PE X (.Call (.Name x p) (e :: es) [] pos) (tMake C sp [] E0 t) := pe_mkX c hr hk passL hg ha hdb he hpl
theorem pe_mtX {pl : Sem Bool} (c : Met X.prog X.w X.K X.mg X.base k C m sp) (hr : Room j X.A) (hk : k ≤ j) (hx : Passes (L2.CX X.prog X.w) X E) (he : PE X o ta) (ha : PA X (e :: es) t)
    (hst : starEach (e :: es) X.env = (false, eval e X.env) :: starEach es X.env := by rfl) (hpl : (backTo pos (starEach es X.env)).any (·.1) = false := by rfl)
    (ht : eval (.Call (.Attribute o m apos) (e :: es) [] pos) X.env = (do
      let ov ← eval o X.env
      standAt apos.atName
      let (f, first) ← holding [ov] (getMethod ov m pl)
      callWith pos f first (backTo pos (starEach (e :: es) X.env)) (backToKw pos (keywordEach [] X.env))) := by rfl) :
    PE X (.Call (.Attribute o m apos) (e :: es) [] pos) (tMeth C m sp [] E ta t) := by
  obtain ⟨f, fd, ps, hc, hm, F, b⟩ := c.ex
  exact pe_meth (pl := pl) he hc hm F (hr.mono hk) b .nil hx ha hst hpl ht
theorem pe_mt0X {pl : Sem Bool} (c : Met X.prog X.w X.K X.mg X.base k C m sp) (hr : Room j X.A) (hk : k ≤ j) (hx : Passes (L2.CX X.prog X.w) X E) (he : PE X o ta)
    (ht : eval (.Call (.Attribute o m apos) [] [] pos) X.env = (do
      let ov ← eval o X.env
      standAt apos.atName
      let (f, first) ← holding [ov] (getMethod ov m pl)
      callWith pos f first (backTo pos (starEach [] X.env)) (backToKw pos (keywordEach [] X.env))) := by rfl) :
    PE X (.Call (.Attribute o m apos) [] [] pos) (tMeth C m sp [] E ta tNil) := by
  obtain ⟨f, fd, ps, hc, hm, F, b⟩ := c.ex
  exact pe_meth0 (pl := pl) he hc hm F (hr.mono hk) b .nil hx ht
theorem pe_gc {v : V} (hg : Gl X x) (h : ∃ u, X.mg x = some u ∧ RelV v u) (hd : (x == ("__debug__" : Str)) = false := by decide) : PE X (.Name x pos) (tC v) := by
  obtain ⟨u, hm, r⟩ := h
  exact pe_glob hg hm r hd
end
section
variable {P : Program} {w : World} {K : PySem.W.Frag} {mg : Str → Option Value} {base : Heap}
/-- the promise of a def by its body -/
theorem cal_of {x : Str} {st : Stmt} {f : Addr} {fd : FuncData} {N ps : List Str} {k : Nat} {sp : Sp} (F : Fun K x x st f fd) (hm : mg x = some (.ref f)) (b : Binds K fd ps []) (S : FnScope N ps (defScope st)) (len : ∀ vs H Q E, sp vs H Q E → vs.length = ps.length)
    (hbody : ∀ (cdv : Value) (A : Around) (outer : List Env) (s : Shared) (H : Hp) (vs : List V) (Q : VK) (E : XK), Room k (A.deeper (envOfC x (defScope st) s.heap.objs.size f cdv)) → sp vs H Q E →
      ∃ t, PSs (cxOf (L2.CX P w) P w K mg base N x (defScope st) f cdv A outer s H E) (defBody st) t ∧ t { nx := fun _ H' => Q .non H', rt := Q } (start N vs) H) : Cal P w K mg base (k + 1) x sp :=
  ⟨f, fd, ps, F.okX S len hbody, hm, F.kp, b⟩
theorem met_of {m qual : Str} {C : Addr} {st : Stmt} {f : Addr} {fd : FuncData} {N ps : List Str} {k : Nat} {sp : Sp} (c : Cls K C) (me : Meth K C m f) (F : Fun K m qual st f fd) (b : Binds K fd ps []) (S : FnScope N ps (defScope st)) (len : ∀ vs H Q E, sp vs H Q E → vs.length = ps.length)
    (hbody : ∀ (cdv : Value) (A : Around) (outer : List Env) (s : Shared) (H : Hp) (vs : List V) (Q : VK) (E : XK), Room k (A.deeper (envOfC qual (defScope st) s.heap.objs.size f cdv)) → sp vs H Q E →
      ∃ t, PSs (cxOf (L2.CX P w) P w K mg base N qual (defScope st) f cdv A outer s H E) (defBody st) t ∧ t { nx := fun _ H' => Q .non H', rt := Q } (start N vs) H) : Met P w K mg base (k + 1) C m sp :=
  ⟨f, fd, ps, c, me, F.okX S len hbody, b⟩
theorem mak_of {x qual : Str} {C : Addr} {st : Stmt} {f : Addr} {fd : FuncData} {N ps : List Str} {k : Nat} {sp : Sp} (M : Mk K C f) (hm : mg x = some (.ref C)) (F : Fun K "__init__" qual st f fd) (b : Binds K fd ps []) (S : FnScope N ps (defScope st)) (len : ∀ vs H Q E, sp vs H Q E → vs.length = ps.length)
    (hbody : ∀ (cdv : Value) (A : Around) (outer : List Env) (s : Shared) (H : Hp) (vs : List V) (Q : VK) (E : XK), Room k (A.deeper (envOfC qual (defScope st) s.heap.objs.size f cdv)) → sp vs H Q E →
      ∃ t, PSs (cxOf (L2.CX P w) P w K mg base N qual (defScope st) f cdv A outer s H E) (defBody st) t ∧ t { nx := fun _ H' => Q .non H', rt := Q } (start N vs) H) : Mak P w K mg base (k + 1) x C sp :=
  ⟨f, fd, ps, M, F.okX S len hbody, hm, b⟩
end
section
variable {X : Cx} {pos : Pos}
/-- o.f = .., as a target -/
def gAttr (K : PySem.W.Frag) (to : TE) (f : Str) : TG := fun v σ H Q => to σ H fun x H2 => ∃ a C dx fs, x = .ref a ∧ H2 a = some (.ins C dx fs) ∧ Cls K C ∧ NoAttr K C f ∧ fs.length < 1000 ∧ Q σ (upd H2 a (.ins C dx (putF f v fs)))
theorem pg_attr {o : Expr} {f : Str} {to : TE} (ho : PE X o to) : PG X (.Attribute o f pos) (gAttr X.K to f) := by
  refine ⟨fun pins s σ H v u Q I r h => ?_⟩
  rw [assign_Attribute]
  refine wpAny_bind (wpAny_holding (thn (ho.run pins s σ H _ I h) fun ov s1 ⟨x, H1, I1, r1, q1⟩ => ?_))
  obtain ⟨a, C, dx, fs, ex, ea, c, n, l, q⟩ := q1
  subst ex
  obtain rfl : ov = Value.ref a := r1
  refine wpAny_bind (wpAny_standAt (wpAny_bind (wpAny_holding (setattr_ok I1 ea c n l r fun s2 I2 => ?_))))
  exact wpAny_release ⟨σ, _, I2, q⟩
/-- d[k] = .., as a target -/
def rSetD : V → V → V → Hp → (Hp → Prop) → Prop := fun o i v H Q => ∃ a H', o = .ref a ∧ DPut H a i v H' ∧ Q H'
theorem set_dict (hu : X.A.units + 1 < cLine) : PSet X rSetD := by
  intro pins s σ H o i v ov iv u Q I ro ri rv h
  obtain ⟨a, H', rfl, g, q⟩ := h
  obtain rfl : ov = Value.ref a := ro
  exact d_setItem hu I g ri rv fun s2 I2 => ⟨H', I2, q⟩
/-- list(range(a, b, c)) -/
def tLstRg3 (ta : TA) : TE := fun σ H Q => ta σ H fun vs H1 => ∃ (i j c : Int) (n : Nat), vs = [.int i, .int j, .int c] ∧ RgC i j c n ∧ n ≤ 2 ^ 24 ∧ ∀ q, H1 q = none → Q (.ref q) (upd H1 q (.lst ((List.range n).map fun (k : Nat) => V.int (i + (k : Int) * c))))
theorem vals_step {a c : Int} {n : Nat} {acc : Array Value} (h : ItemsOf (fun i v => ∃ t, v = .int (a + (i : Int) * c) t) acc n) : Vals ((List.range n).map fun (k : Nat) => V.int (a + (k : Int) * c)) acc.toList := by
  have e : acc.toList.length = n := by rw [Array.length_toList]; exact h.1
  rw [← e]
  refine vals_of_get acc.toList _ fun j u hj => ?_
  obtain ⟨t, rfl⟩ := h.2 j u (by rw [← hj, Array.getElem?_toList])
  exact ⟨t, rfl⟩
theorem pe_listRg3 {a b c : Expr} {ta : TA} {p p2 pos2 : Pos} (hc : X.calm = true) (hg : Gl X "list") (hm : X.mg "list" = none) (hg2 : Gl X "range") (hm2 : X.mg "range" = none) (ha : PA X [a, b, c] ta)
    (hs : starEach [a, b, c] X.env = (false, eval a X.env) :: starEach [b, c] X.env := by rfl) (hpl : (backTo pos2 (starEach [b, c] X.env)).any (·.1) = false := by rfl)
    (na : starEach [.Call (.Name "range" p2) [a, b, c] [] pos2] X.env = (false, eval (.Call (.Name "range" p2) [a, b, c] [] pos2) X.env) :: starEach [] X.env := by rfl) :
    PE X (.Call (.Name "list" p) [.Call (.Name "range" p2) [a, b, c] [] pos2] [] pos) (tLstRg3 ta) := by
  refine ⟨fun pins s σ H Q I h => ?_⟩
  refine Call_ (ld_blt I hg hm boot_list (PyProof.Rows.callWith_type1 (args_cons (Call_ (ld_blt I hg2 hm2 boot_range (PyProof.Rows.callWith_type1 (thn (ha.run pos2 pins s σ H _ I h) fun us s1 ⟨vs, H1, I1, r1, q1⟩ => ?_) hs hpl))) na) na))
  obtain ⟨i, j, k, n, e, ⟨c0, c1, c2, c3⟩, hn, q⟩ := q1
  subst e
  cases r1 with
  | cons r rr =>
    cases rr with
    | cons r' rr =>
      cases rr with
      | cons r'' rr =>
        cases rr
        obtain ⟨t, rfl⟩ := r
        obtain ⟨t', rfl⟩ := r'
        obtain ⟨t'', rfl⟩ := r''
        refine call_range_3 c0 (args_nil ?_) (.inl (PyProof.noPylong_small c1))
        have I2 : Inv X pins σ H1 { s1 with heap := s1.heap.push { cls := .type "range", data := .fields #[.int i t, .int j t', .int k t''] } } := I1.kept (t' := s1.toks) fun b o e => Heap.get?_push_of_some _ e
        refine call_list_range (s := { s1 with heap := s1.heap.push { cls := .type "range", data := .fields #[.int i t, .int j t', .int k t''] } }) (n := n) (I2.ok.hd hc) (IsRange.new _ _ _ _ _ _ _) c2 c3 hn fun h' tk acc c' hk e' hi => ?_
        refine ⟨.ref _, _, I2.laid hk (Nat.le_refl _) (show ObjOk X.prog X.w _ _ _ (.lst ((List.range n).map fun (k1 : Nat) => V.int (i + (k1 : Int) * k))) from ⟨?_, acc.toList, c', vals_step hi, ?_⟩), rfl, q _ (I2.hok.fresh (Nat.le_refl _))⟩
        · rw [List.length_map, List.length_range, sizeLine_eq]; omega
        · rw [Array.toArray_toList]; exact e'
end
end Y
/-! part A6 -/
/-! Operators of any kind, and short forms of what the readings ask. -/
namespace Y
open PySem L2
section
variable {X : Cx}
/-! ### operators -/
abbrev rAddI : R2 := rI0 fun i j => .int (i + j)
def rAddU (K : PySem.W.Frag) : R2 := fun x y H Q => (rAddI x y H Q ∨ rCat x y H Q) ∨ rCatA K x y H Q
theorem oAdd : OpR X (binaryOp .Add) (rAddU X.K) := OpR.or (OpR.or op_add op_cat) op_catA
def rMulU : R2 := fun x y H Q => rI CMul (fun i j => .int (i * j)) x y H Q ∨ rRep x y H Q
theorem oMul : OpR X (binaryOp .Mult) rMulU := OpR.or op_mul op_rep
/-- a tuple of any things against () -/
def rEqT0 (K : PySem.W.Frag) : R2 := fun x y H Q => ∃ a b xs, x = .ref a ∧ y = .ref b ∧ SqT K H a xs ∧ SqT K H b [] ∧ Q (.bl (decide (xs.length = 0))) H
theorem op_eqT0 (hu : X.A.units < cLine) : OpR X (compareOp .Eq) (rEqT0 X.K) := by
  intro pins s σ H x y v u Q I rx ry h
  obtain ⟨a, b, xs, rfl, rfl, ha, hb, q⟩ := h
  obtain rfl : v = Value.ref a := rx
  obtain rfl : u = Value.ref b := ry
  obtain ⟨us, r1, p1, _⟩ := I.tuple ha
  obtain ⟨ws, r2, p2, _⟩ := I.tuple hb
  cases r2
  refine SeqAt.eq_tupleAt (e := fun _ => true) p1 p2 hu (fun j h1 h2 => absurd h2 (Nat.not_lt_zero j)) ⟨.bl _, H, I, ?_, q⟩
  have l1 := r1.length
  cases us with
  | nil => cases r1; rfl
  | cons u0 us => cases r1; rfl
def rEqU (K : PySem.W.Frag) : R2 := fun x y H Q => (rEq x y H Q ∨ rEqD K x y H Q) ∨ rEqT0 K x y H Q
theorem oEq (hu : X.A.units + 64 < cLine) : OpR X (compareOp .Eq) (rEqU X.K) := OpR.or (OpR.or op_eq (op_eqD hu)) (op_eqT0 (by omega))
def rNeU (K : PySem.W.Frag) : R2 := fun x y H Q => rNe x y H Q ∨ rNeD K x y H Q
theorem oNe (hu : X.A.units + 64 < cLine) : OpR X (compareOp .NotEq) (rNeU X.K) := OpR.or op_ne (op_neD hu)
def rLtU (K : PySem.W.Frag) : R2 := fun x y H Q => rI0 (fun i j => .bl (decide (i < j))) x y H Q ∨ rLtD K x y H Q
theorem oLt (hu : X.A.units + 64 < cLine) : OpR X (compareOp .Lt) (rLtU X.K) := OpR.or op_lt (op_ltD hu)
def rIxU (K : PySem.W.Frag) : R2 := fun x y H Q => rIxL K x y H Q ∨ rIxT K x y H Q
theorem oIx : IxR X (rIxU X.K) := IxR.or ix_list ix_tup
def rSlU (K : PySem.W.Frag) : V → Option Int → Option Int → Hp → VK → Prop := fun x lo hi H Q => rSlL K x lo hi H Q ∨ rSlA K x lo hi H Q
theorem oSl : SlR X (rSlU X.K) := SlR.or sl_list sl_tupA
theorem oAddK (K : PySem.W.Frag) (h : X.K = K := by rfl) : OpR X (binaryOp .Add) (rAddU K) := by subst h; exact oAdd
theorem oEqK (K : PySem.W.Frag) (hu : X.A.units + 64 < cLine) (h : X.K = K := by rfl) : OpR X (compareOp .Eq) (rEqU K) := by subst h; exact oEq hu
theorem oNeK (K : PySem.W.Frag) (hu : X.A.units + 64 < cLine) (h : X.K = K := by rfl) : OpR X (compareOp .NotEq) (rNeU K) := by subst h; exact oNe hu
theorem oLtK (K : PySem.W.Frag) (hu : X.A.units + 64 < cLine) (h : X.K = K := by rfl) : OpR X (compareOp .Lt) (rLtU K) := by subst h; exact oLt hu
theorem oIxK (K : PySem.W.Frag) (h : X.K = K := by rfl) : IxR X (rIxU K) := by subst h; exact oIx
theorem oSlK (K : PySem.W.Frag) (h : X.K = K := by rfl) : SlR X (rSlU K) := by subst h; exact oSl
end
/-! ### what is asked, under names -/
def mkT (vs : List V) (H : Hp) (Q : VK) : Prop := vs.length ≤ sizeLine ∧ ∀ p, H p = none → Q (.ref p) (upd H p (.tup vs))
def mkL (vs : List V) (H : Hp) (Q : VK) : Prop := vs.length ≤ sizeLine ∧ ∀ p, H p = none → Q (.ref p) (upd H p (.lst vs))
def kFld (K : PySem.W.Frag) (f : Str) (x : V) (H : Hp) (Q : VK) : Prop := ∃ a C dx fs v, x = .ref a ∧ H a = some (.ins C dx fs) ∧ Cls K C ∧ NoAttr K C f ∧ fs.lookup f = some v ∧ Q v H
def kSfld (K : PySem.W.Frag) (f : Str) (x y : V) (H : Hp) (q : Hp → Prop) : Prop := ∃ a C dx fs, x = .ref a ∧ H a = some (.ins C dx fs) ∧ Cls K C ∧ NoAttr K C f ∧ fs.length < 1000 ∧ q (upd H a (.ins C dx (putF f y fs)))
def kDget (x y : V) (H : Hp) (Q : VK) : Prop := ∃ a v, x = .ref a ∧ DGet H a y (some v) ∧ Q v H
def kDput (x y v : V) (H : Hp) (q : Hp → Prop) : Prop := ∃ a H4, x = .ref a ∧ DPut H a y v H4 ∧ q H4
def kPair (vs : List V) (q : V → V → Prop) : Prop := ∃ v w, vs = [v, w] ∧ q v w
def kTri (vs : List V) (q : V → V → V → Prop) : Prop := ∃ u v w, vs = [u, v, w] ∧ q u v w
def kMeth (C : Addr) (m : Str) (x : V) (H : Hp) (q : Prop) : Prop := ∃ a dx fs, x = .ref a ∧ H a = some (.ins C dx fs) ∧ fs.lookup m = none ∧ q
def kMake (C : Addr) (sp : Sp) (E : XK) (vs : List V) (H : Hp) (Q : VK) : Prop := ∀ x dx, H x = none → H dx = none → dx ≠ x → sp (.ref x :: vs) (upd (upd H dx (.own x)) x (.ins C dx [])) (fun v H2 => v = .non ∧ Q (.ref x) H2) E
def rLen (K : PySem.W.Frag) : List V → Hp → VK → Prop := fun xs H Q => ∃ x n, xs = [x] ∧ LenV K x H n ∧ Q (.int n) H
def rTuple (K : PySem.W.Frag) : List V → Hp → VK → Prop := fun xs H Q => ∃ p ys, xs = [.ref p] ∧ ((SqL K H p ys ∧ ∀ l, H l = none → Q (.ref l) (upd H l (.tup ys))) ∨ (SqT K H p ys ∧ Q (.ref p) H))
def rList (K : PySem.W.Frag) : List V → Hp → VK → Prop := fun xs H Q => ∃ p ys, xs = [.ref p] ∧ (SqL K H p ys ∨ SqT K H p ys) ∧ ∀ l, H l = none → Q (.ref l) (upd H l (.lst ys))
def rInt : List V → Hp → VK → Prop := fun xs H Q => (∃ i, xs = [.int i] ∧ Q (.int i) H) ∨ ∃ k, xs = [.bl k] ∧ Q (.int (if k then 1 else 0)) H
def rAbs : List V → Hp → VK → Prop := fun xs H Q => ∃ i, xs = [.int i] ∧ Q (.int (if i < 0 then -i else i)) H
section
variable {X : Cx}
theorem cLen : CallR X (.builtin "len") (rLen X.K) := call_len
theorem cTuple : CallR X (.type "tuple") (rTuple X.K) := call_tuple_of
theorem cList : CallR X (.type "list") (rList X.K) := call_list_of
theorem cInt : CallR X (.type "int") rInt := call_int1
theorem cAbs : CallR X (.builtin "abs") rAbs := call_abs
end
/-! ### short forms -/
section
variable {K : PySem.W.Frag} {σ : L2.St} {H : Hp} {Q : VK} {D : Ends}
theorem x_var {i : Nat} {v : V} (h : σ[i]? = some (some v)) (q : Q v H) : tVar i σ H Q := ⟨v, h, q⟩
theorem x_c {v : V} (q : Q v H) : tC v σ H Q := q
theorem x_op {r : R2} {ta tb : TE} (q : ta σ H fun x H1 => tb σ H1 fun y H2 => r x y H2 Q) : tOp r ta tb σ H Q := q
theorem x_un {r : V → Hp → VK → Prop} {ta : TE} (q : ta σ H fun x H1 => r x H1 Q) : tUn r ta σ H Q := q
theorem x_neg {i : Int} (q : Q (.int (-i)) H) : rU (fun i => .int (-i)) (.int i) H Q := ⟨i, rfl, q⟩
theorem x_cb {r : List V → Hp → VK → Prop} {t : TA} (q : t σ H fun vs H1 => r vs H1 Q) : tCB r t σ H Q := q
theorem x_cons {ta : TE} {tr : TA} {Q : List V → Hp → Prop} (q : ta σ H fun x H1 => tr σ H1 fun xs H2 => Q (x :: xs) H2) : tCons ta tr σ H Q := q
theorem x_nil {Q : List V → Hp → Prop} (q : Q [] H) : tNil σ H Q := q
theorem x_call {sp : Sp} {dvs : List V} {E : XK} {t : TA} (q : t σ H fun vs H1 => sp (vs ++ dvs) H1 Q E) : tCall sp dvs E t σ H Q := q
theorem x_tup {t : TA} (q : t σ H fun xs H1 => mkT xs H1 Q) : tTup t σ H Q := q
theorem x_lst {t : TA} (q : t σ H fun xs H1 => mkL xs H1 Q) : tLst t σ H Q := q
theorem x_sl {r : V → Option Int → Option Int → Hp → VK → Prop} {te : TE} {tl th : TO} (q : te σ H fun x H1 => tl σ H1 fun l H2 => th σ H2 fun u H3 => r x l u H3 Q) : tSl r te tl th σ H Q := q
theorem x_nopart {Q : Option Int → Hp → Prop} (q : Q none H) : tNoPart σ H Q := q
theorem x_part {t : TE} {Q : Option Int → Hp → Prop} (q : t σ H fun x H1 => ∃ i, x = .int i ∧ Q (some i) H1) : tPart t σ H Q := q
theorem x_andV {ta tb : TE} (q : ta σ H fun x H1 => ∃ c, x = .bl c ∧ if c = true then tb σ H1 Q else Q (.bl false) H1) : tAndV ta tb σ H Q := q
theorem x_orV {ta tb : TE} (q : ta σ H fun x H1 => ∃ c, x = .bl c ∧ if c = true then Q (.bl true) H1 else tb σ H1 Q) : tOrV ta tb σ H Q := q
theorem x_notV {ta : TE} (q : ta σ H fun x H1 => ∃ c, x = .bl c ∧ Q (.bl (!c)) H1) : tNotV ta σ H Q := q
theorem x_if {t : TT} {ta tb : TE} (q : t σ H fun c H1 => if c = true then ta σ H1 Q else tb σ H1 Q) : tIf t ta tb σ H Q := q
theorem x_test {t : TE} {Q : Bool → Hp → Prop} (q : t σ H fun x H' => ∃ k, x = .bl k ∧ Q k H') : tTest t σ H Q := q
theorem x_tb {t : TE} {Q : Bool → Hp → Prop} (q : t σ H fun x H' => ∃ k, x = .bl k ∧ Q k H') : tB t σ H Q := q
theorem x_and {t u : TT} {Q : Bool → Hp → Prop} (q : t σ H fun c H1 => if c = true then u σ H1 Q else Q false H1) : tAnd t u σ H Q := q
theorem x_or {t u : TT} {Q : Bool → Hp → Prop} (q : t σ H fun c H1 => if c = true then Q true H1 else u σ H1 Q) : tOr t u σ H Q := q
theorem x_not {t : TT} {Q : Bool → Hp → Prop} (q : t σ H fun c H1 => Q (!c) H1) : tNot t σ H Q := q
theorem x_chain {r r' : R2} {ta tb tc : TE} (q : ta σ H fun x H1 => tb σ H1 fun y H2 => r x y H2 fun z H3 => ∃ k, z = .bl k ∧ if k = true then tc σ H3 fun u H4 => r' y u H4 Q else Q (.bl false) H3) : tChain r r' ta tb tc σ H Q := q
theorem x_exbl {b : Bool} {P : Bool → Prop} (q : P b) : ∃ k, V.bl b = .bl k ∧ P k := ⟨b, rfl, q⟩
theorem x_exint {b : Int} {P : Int → Prop} (q : P b) : ∃ k, V.int b = .int k ∧ P k := ⟨b, rfl, q⟩
theorem x_seq {t u : TS} (q : t { D with nx := u D } σ H) : tSeq t u D σ H := q
theorem x_asg {te : TE} {g : TG} (q : te σ H fun x H1 => g x σ H1 D.nx) : tAsg te g D σ H := q
theorem x_name {i : Nat} {v : V} {Q : L2.St → Hp → Prop} (q : Q (σ.set i (some v)) H) : gName i v σ H Q := q
theorem x_drop {te : TE} (q : te σ H fun _ H1 => D.nx σ H1) : tDrop te D σ H := q
theorem x_ret {te : TE} (q : te σ H D.rt) : tRet te D σ H := q
theorem x_retN (q : D.rt .non H) : tRetN D σ H := q
theorem x_next (q : D.nx σ H) : tNext D σ H := q
theorem x_brk (q : D.bk σ H) : tBreak D σ H := q
theorem x_ifS {c : TT} {t u : TS} (q : c σ H fun b H1 => if b = true then t D σ H1 else u D σ H1) : tIfS c t u D σ H := q
theorem x_fld {ta : TE} {f : Str} (q : ta σ H fun x H1 => kFld K f x H1 Q) : tFld K ta f σ H Q := q
theorem x_sfld {ta tv : TE} {f : Str} (q : tv σ H fun y H1 => ta σ H1 fun x H2 => kSfld K f x y H2 (D.nx σ)) : sFld K ta tv f D σ H := q
theorem x_par {i j : Nat} {ta : TA} (q : ta σ H fun vs H1 => kPair vs fun v w => D.nx ((σ.set i (some v)).set j (some w)) H1) : tPar i j ta D σ H := q
theorem x_par3 {i j l : Nat} {ta : TA} (q : ta σ H fun vs H1 => kTri vs fun u v w => D.nx (((σ.set i (some u)).set j (some v)).set l (some w)) H1) : tPar3 i j l ta D σ H := q
theorem x_dget {td ty : TE} (q : td σ H fun x H1 => ty σ H1 fun y H2 => kDget x y H2 Q) : tDGet td ty σ H Q := q
theorem x_dput {td ty tv : TE} (q : tv σ H fun v H1 => td σ H1 fun x H2 => ty σ H2 fun y H3 => kDput x y v H3 (D.nx σ)) : sDPut td ty tv D σ H := q
theorem x_bm {T : String} {r : V → List V → Hp → VK → Prop} {to : TE} {t : TA} (q : to σ H fun x H1 => tyV K T x H1 ∧ t σ H1 fun xs H2 => r x xs H2 Q) : tBM K T r to t σ H Q := q
theorem x_bm0 {T : String} {r : V → List V → Hp → VK → Prop} {to : TE} (q : to σ H fun x H1 => tyV K T x H1 ∧ r x [] H1 Q) : tBM0 K T r to σ H Q := q
theorem x_ite1 {A B : Prop} (q : A) : if true = true then A else B := iteT q
theorem x_iteA {c : Bool} {A B : Prop} (h : c = true) (q : A) : if c = true then A else B := by rw [h]; exact iteT q
theorem x_iteB {c : Bool} {A B : Prop} (h : c = false) (q : B) : if c = true then A else B := by rw [h]; exact iteF q
theorem x_ite0 {A B : Prop} (q : B) : if false = true then A else B := iteF q
/-! ### values -/
theorem x_addi {i j : Int} (q : Q (.int (i + j)) H) : rAddU K (.int i) (.int j) H Q := .inl (.inl ⟨i, j, rfl, rfl, q⟩)
theorem x_addl {l b : Addr} {xs zs : List V} (h1 : H l = some (.lst xs)) (h2 : H b = some (.lst zs)) (hz : xs.length + zs.length ≤ 100000) (q : ∀ p H', Ex H H' → H p = none → H' p = some (.lst (xs ++ zs)) → Q (.ref p) H') : rAddU K (.ref l) (.ref b) H Q :=
  .inl (.inr ⟨l, b, xs, zs, rfl, rfl, h1, h2, Nat.le_trans hz (by decide), fun p hp => q p _ (Ex.new hp) hp upd_same⟩)
theorem x_addt {x y : V} {ds es : List PyData} (h1 : Wt K H x (.tuple ds)) (h2 : Wt K H y (.tuple es)) (hz : ds.length + es.length ≤ 100000) (q : ∀ v H', Ex H H' → Wt K H' v (.tuple (ds ++ es)) → Q v H') : rAddU K x y H Q := by
  cases h1 with
  | @tup a xs _ ea wa =>
  cases h2 with
  | @tup b ys _ eb wb =>
  refine .inr ⟨a, b, xs, ys, rfl, rfl, SqT.of ea, SqT.of eb, by rw [wa.len, wb.len]; exact Nat.le_trans hz (by decide), fun e => ?_, fun _ e => ?_, fun _ _ p hp => ?_⟩
  · subst e
    cases wa
    exact q _ H (Ex.refl H) (.tup eb wb)
  · subst e
    cases wb
    exact q _ H (Ex.refl H) (.tup ea (by rw [List.append_nil]; exact wa))
  · exact q _ _ (Ex.new hp) (.tup upd_same ((wa.append wb).ex (Ex.new hp)))
theorem x_muli {i j : Int} (hc : CMul i j) (q : Q (.int (i * j)) H) : rMulU (.int i) (.int j) H Q := .inl ⟨i, j, rfl, rfl, hc, q⟩
theorem x_mull {l : Addr} {k : Int} {xs : List V} (h1 : H l = some (.lst xs)) (h0 : 0 ≤ k) (hz : xs.length * k.toNat ≤ 100000) (hk : k ≤ 100000) (q : ∀ p H', Ex H H' → H p = none → H' p = some (.lst (List.replicate k.toNat xs).flatten) → Q (.ref p) H') : rMulU (.ref l) (.int k) H Q :=
  .inr ⟨l, k, xs, rfl, rfl, h1, by omega, by omega, Nat.le_trans hz (by decide), fun p hp => q p _ (Ex.new hp) hp upd_same⟩
theorem x_i0 {g : Int → Int → V} {i j : Int} (q : Q (g i j) H) : rI0 g (.int i) (.int j) H Q := ⟨i, j, rfl, rfl, q⟩
theorem x_iC {C : Int → Int → Prop} {g : Int → Int → V} {i j : Int} (hc : C i j) (q : Q (g i j) H) : rI C g (.int i) (.int j) H Q := ⟨i, j, rfl, rfl, hc, q⟩
theorem x_eqi {i j : Int} (q : Q (.bl (decide (i = j))) H) : rEqU K (.int i) (.int j) H Q := .inl (.inl ⟨rfl, by rw [show decide (V.int i = V.int j) = decide (i = j) by simp]; exact q⟩)
theorem x_eqs {i j : Str} (q : Q (.bl (decide (i = j))) H) : rEqU K (.str i) (.str j) H Q := .inl (.inl ⟨rfl, by rw [show decide (V.str i = V.str j) = decide (i = j) by simp]; exact q⟩)
theorem x_eqb {i j : Bool} (q : Q (.bl (decide (i = j))) H) : rEqU K (.bl i) (.bl j) H Q := .inl (.inl ⟨rfl, by rw [show decide (V.bl i = V.bl j) = decide (i = j) by simp]; exact q⟩)
theorem x_nei {i j : Int} (q : Q (.bl (!decide (i = j))) H) : rNeU K (.int i) (.int j) H Q := .inl ⟨rfl, by rw [show decide (V.int i = V.int j) = decide (i = j) by simp]; exact q⟩
theorem x_lti {i j : Int} (q : Q (.bl (decide (i < j))) H) : rLtU K (.int i) (.int j) H Q := .inl ⟨i, j, rfl, rfl, q⟩
theorem x_isN {x : V} (q : Q (.bl (decide (x = .non))) H) : rIsN x .non H Q := ⟨rfl, q⟩
theorem x_notN {x : V} (q : Q (.bl (!decide (x = .non))) H) : rNotN x .non H Q := ⟨rfl, q⟩
theorem x_pair {v w : V} {q : V → V → Prop} (h : q v w) : kPair [v, w] q := ⟨v, w, rfl, h⟩
theorem x_tri {u v w : V} {q : V → V → V → Prop} (h : q u v w) : kTri [u, v, w] q := ⟨u, v, w, rfl, h⟩
theorem x_int {i : Int} (q : Q (.int i) H) : rInt [.int i] H Q := .inl ⟨i, rfl, q⟩
theorem x_intb {b : Bool} (q : Q (.int (if b then 1 else 0)) H) : rInt [.bl b] H Q := .inr ⟨b, rfl, q⟩
theorem x_abs {i : Int} (q : Q (.int (if i < 0 then -i else i)) H) : rAbs [.int i] H Q := ⟨i, rfl, q⟩
theorem x_kfld {a C dx : Addr} {fs : List (Str × V)} {f : Str} {v : V} (h : H a = some (.ins C dx fs)) (c : Cls K C) (n : NoAttr K C f) (l : fs.lookup f = some v) (q : Q v H) : kFld K f (.ref a) H Q := ⟨a, C, dx, fs, v, rfl, h, c, n, l, q⟩
theorem x_ksfld {a C dx : Addr} {fs gs : List (Str × V)} {f : Str} {y : V} {q : Hp → Prop} (h : H a = some (.ins C dx fs)) (c : Cls K C) (n : NoAttr K C f) (l : fs.length < 1000) (e : putF f y fs = gs) (k : ∀ H', Go [a] H H' → H' a = some (.ins C dx gs) → q H') : kSfld K f (.ref a) y H q :=
  ⟨a, C, dx, fs, rfl, h, c, n, l, k _ (Go.set h (by intro xs z; cases z)) (by rw [upd_same, e])⟩
theorem x_meth {C : Addr} {m : Str} {ta : TE} {t : TA} {sp : Sp} {dvs : List V} {E : XK} (q : ta σ H fun x H1 => kMeth C m x H1 (t σ H1 fun vs H2 => sp (x :: (vs ++ dvs)) H2 Q E)) : tMeth C m sp dvs E ta t σ H Q := by
  refine cast ?_ q
  unfold tMeth kMeth
  rfl
theorem x_kmeth {a C dx : Addr} {m : Str} {fs : List (Str × V)} {q : Prop} (h : H a = some (.ins C dx fs)) (l : fs.lookup m = none) (k : q) : kMeth C m (.ref a) H q := ⟨a, dx, fs, rfl, h, l, k⟩
theorem x_make {C : Addr} {t : TA} {sp : Sp} {E : XK} (q : t σ H fun vs H1 => kMake C sp E vs H1 Q) : tMake C sp [] E t σ H Q := by
  unfold tMake
  have e : (fun (vs : List V) H1 => kMake C sp E vs H1 Q) = fun vs H1 => ∀ x dx, H1 x = none → H1 dx = none → dx ≠ x → sp (.ref x :: (vs ++ [])) (upd (upd H1 dx (.own x)) x (.ins C dx [])) (fun v H2 => v = .non ∧ Q (.ref x) H2) E := by
    funext vs H1
    unfold kMake
    rw [List.append_nil]
  rw [← e]
  exact q
theorem x_eqd {x y : V} {d e : PyData} (h1 : Wt K H x d) (h2 : Wt K H y e) (s1 : SeqAt.shaped d = true) (s2 : SeqAt.shaped e = true) (q : Q (.bl (PyData.eqv d e)) H) : rEqU K x y H Q :=
  .inl (.inr ⟨d, e, h1.dp (SeqAt.canLay_of_shaped s1), h2.dp (SeqAt.canLay_of_shaped s2), s1, s2, q⟩)
theorem x_eqt0 {a b : Addr} {xs : List V} (h1 : H a = some (.tup xs)) (h2 : H b = some (.tup [])) (q : Q (.bl (decide (xs.length = 0))) H) : rEqU K (.ref a) (.ref b) H Q :=
  .inr ⟨a, b, xs, rfl, rfl, SqT.of h1, SqT.of h2, q⟩
theorem x_ned {x y : V} {d e : PyData} (h1 : Wt K H x d) (h2 : Wt K H y e) (s1 : SeqAt.shaped d = true) (s2 : SeqAt.shaped e = true) (q : Q (.bl (!PyData.eqv d e)) H) : rNeU K x y H Q :=
  .inr ⟨d, e, h1.dp (SeqAt.canLay_of_shaped s1), h2.dp (SeqAt.canLay_of_shaped s2), s1, s2, q⟩
/-- an item of a list that stands at l -/
theorem x_ixl {l : Addr} {xs : List V} {i : Int} {n : Nat} {v : V} (h : H l = some (.lst xs)) (hi : i = (n : Int)) (hv : xs[n]? = some v) (q : Q v H) : rIxU K (.ref l) (.int i) H Q :=
  .inl ⟨l, xs, i, v, rfl, rfl, SqL.of h, by rw [hi]; exact atI_nat hv, q⟩
theorem x_ixt {l : Addr} {xs : List V} {i : Int} {n : Nat} {v : V} (h : H l = some (.tup xs)) (hi : i = (n : Int)) (hv : xs[n]? = some v) (q : Q v H) : rIxU K (.ref l) (.int i) H Q :=
  .inr ⟨l, xs, i, v, rfl, rfl, SqT.of h, by rw [hi]; exact atI_nat hv, q⟩
/-- an item of data -/
theorem x_ixd {x : V} {ds : List PyData} {i : Int} {n : Nat} {d : PyData} (h : Wt K H x (.tuple ds)) (hi : i = (n : Int)) (hd : ds[n]? = some d) (q : ∀ v, Wt K H v d → Q v H) : rIxU K x (.int i) H Q := by
  cases h with
  | @tup a xs _ ea wa =>
  obtain ⟨v, hv, wv⟩ := wa.getD hd
  exact x_ixt ea hi hv (q v wv)
theorem x_ixdl {x : V} {ds : List PyData} {i : Int} {n : Nat} {d : PyData} (h : Wt K H x (.list ds)) (hi : i = (n : Int)) (hd : ds[n]? = some d) (q : ∀ v, Wt K H v d → Q v H) : rIxU K x (.int i) H Q := by
  cases h with
  | @lst a xs _ ea wa =>
  obtain ⟨v, hv, wv⟩ := wa.getD hd
  exact x_ixl ea hi hv (q v wv)
/-- a tuple that is made: of data, or as it stands -/
theorem x_mkt {vs : List V} {ds : List PyData} (h : WtL K H vs ds) (q : ∀ v H', Ex H H' → Wt K H' v (.tuple ds) → Q v H') (hl : ds.length ≤ 100000 := by first | decide | simp) : mkT vs H Q :=
  ⟨by rw [h.len]; exact Nat.le_trans hl (by decide), fun p hp => q _ _ (Ex.new hp) (.tup upd_same (h.ex (Ex.new hp)))⟩
theorem x_mkr {vs : List V} (q : ∀ p H', Ex H H' → H p = none → H' p = some (.tup vs) → Q (.ref p) H') (hl : vs.length ≤ 100000 := by first | decide | simp) : mkT vs H Q :=
  ⟨Nat.le_trans hl (by decide), fun p hp => q p _ (Ex.new hp) hp upd_same⟩
theorem x_mkl {vs : List V} (q : ∀ p H', Ex H H' → H p = none → H' p = some (.lst vs) → Q (.ref p) H') (hl : vs.length ≤ 100000 := by first | decide | simp) : mkL vs H Q :=
  ⟨Nat.le_trans hl (by decide), fun p hp => q p _ (Ex.new hp) hp upd_same⟩
theorem x_lenl {l : Addr} {xs : List V} (h : H l = some (.lst xs)) (q : Q (.int (xs.length : Int)) H) : rLen K [.ref l] H Q := ⟨_, xs.length, rfl, .inl ⟨xs, SqL.of h, rfl⟩, q⟩
theorem x_lent {l : Addr} {xs : List V} (h : H l = some (.tup xs)) (q : Q (.int (xs.length : Int)) H) : rLen K [.ref l] H Q := ⟨_, xs.length, rfl, .inr ⟨xs, SqT.of h, rfl⟩, q⟩
theorem x_lend {x : V} {ds : List PyData} (h : Wt K H x (.tuple ds)) (q : Q (.int (ds.length : Int)) H) : rLen K [x] H Q := by
  cases h with
  | @tup a xs _ ea wa => exact x_lent ea (by rw [wa.len]; exact q)
theorem x_lendl {x : V} {ds : List PyData} (h : Wt K H x (.list ds)) (q : Q (.int (ds.length : Int)) H) : rLen K [x] H Q := by
  cases h with
  | @lst a xs _ ea wa => exact x_lenl ea (by rw [wa.len]; exact q)
/-- tuple(x), list(x) -/
theorem x_tupl {l : Addr} {xs : List V} (h : H l = some (.lst xs)) (q : ∀ p H', Ex H H' → H p = none → H' p = some (.tup xs) → Q (.ref p) H') : rTuple K [.ref l] H Q := ⟨l, xs, rfl, .inl ⟨SqL.of h, fun p hp => q p _ (Ex.new hp) hp upd_same⟩⟩
theorem x_tupt {l : Addr} {xs : List V} (h : H l = some (.tup xs)) (q : Q (.ref l) H) : rTuple K [.ref l] H Q := ⟨l, xs, rfl, .inr ⟨SqT.of h, q⟩⟩
theorem x_lstt {l : Addr} {xs : List V} (h : H l = some (.tup xs)) (q : ∀ p H', Ex H H' → H p = none → H' p = some (.lst xs) → Q (.ref p) H') : rList K [.ref l] H Q := ⟨l, xs, rfl, .inr (SqT.of h), fun p hp => q p _ (Ex.new hp) hp upd_same⟩
theorem x_lstl {l : Addr} {xs : List V} (h : H l = some (.lst xs)) (q : ∀ p H', Ex H H' → H p = none → H' p = some (.lst xs) → Q (.ref p) H') : rList K [.ref l] H Q := ⟨l, xs, rfl, .inl (SqL.of h), fun p hp => q p _ (Ex.new hp) hp upd_same⟩
/-- isinstance(x, (list, tuple)), (int, str) -/
theorem x_isiLT {x : V} {d : PyData} {p : Addr} (h : Wt K H x d) (hp : H p = some (.tup [.ty "list", .ty "tuple"])) (q : Q (.bl (isLst d || isTup d)) H) : rIsiT K [x, .ref p] H Q := by
  have c : Paired ClsV [V.ty "list", V.ty "tuple"] [Value.type "list", Value.type "tuple"] := .cons (.ty _) (.cons (.ty _) .nil)
  cases h with
  | non => exact ⟨_, p, _, _, _, _, rfl, hp, c, .base .non, kitAny_cons (b := false) (kit_ty (by decide +kernel)) (fun _ => kitAny_cons (b := false) (kit_ty (by decide +kernel)) (fun _ => kitAny_nil) (fun e => by cases e)) (fun e => by cases e), q⟩
  | bl b => exact ⟨_, p, _, _, _, _, rfl, hp, c, .base (.bl b), kitAny_cons (b := false) (kit_ty (by decide +kernel)) (fun _ => kitAny_cons (b := false) (kit_ty (by decide +kernel)) (fun _ => kitAny_nil) (fun e => by cases e)) (fun e => by cases e), q⟩
  | int b => exact ⟨_, p, _, _, _, _, rfl, hp, c, .base (.int b), kitAny_cons (b := false) (kit_ty (by decide +kernel)) (fun _ => kitAny_cons (b := false) (kit_ty (by decide +kernel)) (fun _ => kitAny_nil) (fun e => by cases e)) (fun e => by cases e), q⟩
  | str b => exact ⟨_, p, _, _, _, _, rfl, hp, c, .base (.str b), kitAny_cons (b := false) (kit_ty (by decide +kernel)) (fun _ => kitAny_cons (b := false) (kit_ty (by decide +kernel)) (fun _ => kitAny_nil) (fun e => by cases e)) (fun e => by cases e), q⟩
  | tup e r => exact ⟨_, p, _, _, _, _, rfl, hp, c, .base (.tup e), kitAny_cons (b := false) (kit_ty (by decide +kernel)) (fun _ => kitAny_cons (b := true) (r := true) (kit_ty (by decide +kernel)) (fun e => by cases e) (fun _ => rfl)) (fun e => by cases e), q⟩
  | lst e r => exact ⟨_, p, _, _, _, _, rfl, hp, c, .base (.lst e), kitAny_cons (b := true) (r := true) (kit_ty (by decide +kernel)) (fun e => by cases e) (fun _ => rfl), q⟩
  | obj e k => exact ⟨_, p, _, _, _, _, rfl, hp, c, .base (.ins e k.cl k.ha k.hn k.htk k.hm), kitAny_cons (b := false) k.kL (fun _ => kitAny_cons (b := false) k.kT (fun _ => kitAny_nil) (fun e => by cases e)) (fun e => by cases e), q⟩
theorem x_isiIS {x : V} {d : PyData} {p : Addr} (h : Wt K H x d) (hp : H p = some (.tup [.ty "int", .ty "str"])) (q : Q (.bl (isIntg d || isStr d)) H) : rIsiT K [x, .ref p] H Q := by
  have c : Paired ClsV [V.ty "int", V.ty "str"] [Value.type "int", Value.type "str"] := .cons (.ty _) (.cons (.ty _) .nil)
  cases h with
  | non => exact ⟨_, p, _, _, _, _, rfl, hp, c, .base .non, kitAny_cons (b := false) (kit_ty (by decide +kernel)) (fun _ => kitAny_cons (b := false) (kit_ty (by decide +kernel)) (fun _ => kitAny_nil) (fun e => by cases e)) (fun e => by cases e), q⟩
  | bl b => exact ⟨_, p, _, _, _, _, rfl, hp, c, .base (.bl b), kitAny_cons (b := true) (r := true) (kit_ty (by decide +kernel)) (fun e => by cases e) (fun _ => rfl), q⟩
  | int b => exact ⟨_, p, _, _, _, _, rfl, hp, c, .base (.int b), kitAny_cons (b := true) (r := true) (kit_ty (by decide +kernel)) (fun e => by cases e) (fun _ => rfl), q⟩
  | str b => exact ⟨_, p, _, _, _, _, rfl, hp, c, .base (.str b), kitAny_cons (b := false) (kit_ty (by decide +kernel)) (fun _ => kitAny_cons (b := true) (r := true) (kit_ty (by decide +kernel)) (fun e => by cases e) (fun _ => rfl)) (fun e => by cases e), q⟩
  | tup e r => exact ⟨_, p, _, _, _, _, rfl, hp, c, .base (.tup e), kitAny_cons (b := false) (kit_ty (by decide +kernel)) (fun _ => kitAny_cons (b := false) (kit_ty (by decide +kernel)) (fun _ => kitAny_nil) (fun e => by cases e)) (fun e => by cases e), q⟩
  | lst e r => exact ⟨_, p, _, _, _, _, rfl, hp, c, .base (.lst e), kitAny_cons (b := false) (kit_ty (by decide +kernel)) (fun _ => kitAny_cons (b := false) (kit_ty (by decide +kernel)) (fun _ => kitAny_nil) (fun e => by cases e)) (fun e => by cases e), q⟩
  | obj e k => exact ⟨_, p, _, _, _, _, rfl, hp, c, .base (.ins e k.cl k.ha k.hn k.htk k.hm), kitAny_cons (b := false) k.kI (fun _ => kitAny_cons (b := false) k.kS (fun _ => kitAny_nil) (fun e => by cases e)) (fun e => by cases e), q⟩
theorem ex_at {H H' : Hp} {a : Addr} {o : HO} (e : Ex H H') (h : H a = some o) : H' a = some o := e a o h
theorem ex_wt {H H' : Hp} {v : V} {d : PyData} (e : Ex H H') (h : Wt K H v d) : Wt K H' v d := h.ex e
theorem ex_wl {H H' : Hp} {v : List V} {d : List PyData} (e : Ex H H') (h : WtL K H v d) : WtL K H' v d := h.ex e
end
end Y
/-! part A7 -/
/-! Loops and comprehensions in short. -/
namespace Y
open PySem L2
section
variable {K : PySem.W.Frag} {σ : L2.St} {H : Hp} {Q : VK} {D : Ends} {g : TG} {tb : TS} {tl te : TE} {tt : TT} {vs : List Nat} {a : Addr} {xs : List V}
def kFor (J : It) (g : TG) (tb : TS) (D : Ends) (σ : L2.St) (H : Hp) : Prop := ∃ W : Nat → Nat → L2.St → Hp → Prop, (∃ m, W 0 m σ H) ∧ ∀ i m σ H, W i m σ H →
  (J.stop i H ∧ D.nx σ H) ∨ (J.go i H ∧ ∃ N : L2.St → Hp → Prop, (∀ σ' H', N σ' H' → ∃ m', m' < m ∧ W (i + 1) m' σ' H') ∧ ∀ x H', J.yld i H x H' → g x σ H' fun σ2 H2 => tb { D with nx := N, ct := N, bk := D.nx } σ2 H2)
def kForL (K : PySem.W.Frag) (g : TG) (tb : TS) (D : Ends) (σ : L2.St) (x : V) (H : Hp) : Prop := ∃ a, x = .ref a ∧ (∃ xs, SqL K H a xs) ∧ kFor (Itl K a) g tb D σ H
def kForT (K : PySem.W.Frag) (g : TG) (tb : TS) (D : Ends) (σ : L2.St) (x : V) (H : Hp) : Prop := ∃ a, x = .ref a ∧ (∃ xs, SqT K H a xs) ∧ kFor (Itt K a) g tb D σ H
def kForR (g : TG) (tb : TS) (D : Ends) (σ : L2.St) (vs : List V) (H : Hp) : Prop := ∃ j : Int, vs = [.int j] ∧ -(2 ^ 62) ≤ j ∧ j < 2 ^ 62 ∧ kFor (Itr 0 j.toNat) g tb D σ H
def kForR2 (g : TG) (tb : TS) (D : Ends) (σ : L2.St) (vs : List V) (H : Hp) : Prop := ∃ i j : Int, vs = [.int i, .int j] ∧ (-(2 ^ 62) ≤ i ∧ i < 2 ^ 62 ∧ -(2 ^ 62) ≤ j ∧ j < 2 ^ 62) ∧ kFor (Itr i (j - i).toNat) g tb D σ H
theorem x_forL (q : tl σ H fun x H1 => kForL K g tb D σ x H1) : tFor (iList K tl) g tb D σ H := q
theorem x_forT (q : tl σ H fun x H1 => kForT K g tb D σ x H1) : tFor (iTup K tl) g tb D σ H := q
theorem x_forR {ta : TA} (q : ta σ H fun vs H1 => kForR g tb D σ vs H1) : tFor (iRng1 ta) g tb D σ H := q
theorem x_forR2 {ta : TA} (q : ta σ H fun vs H1 => kForR2 g tb D σ vs H1) : tFor (iRng2 ta) g tb D σ H := q
theorem y_forL (Pv : Nat → L2.St → Hp → Prop) (h : H a = some (.lst xs)) (h0 : Pv 0 σ H) (hl : ∀ i σ H, Pv i σ H → H a = some (.lst xs))
    (hs : ∀ i x σ H, xs[i]? = some x → Pv i σ H → g x σ H fun σ2 H2 => tb { D with nx := Pv (i + 1), ct := Pv (i + 1), bk := D.nx } σ2 H2) (hd : ∀ σ H, Pv xs.length σ H → D.nx σ H) : kForL K g tb D σ (.ref a) H :=
  ⟨a, rfl, ⟨xs, SqL.of h⟩, for_list Pv h0 (fun i σ H _ p => SqL.of (hl i σ H p)) hs hd⟩
theorem y_forT (Pv : Nat → L2.St → Hp → Prop) (h : H a = some (.tup xs)) (h0 : Pv 0 σ H) (hl : ∀ i σ H, Pv i σ H → H a = some (.tup xs))
    (hs : ∀ i x σ H, xs[i]? = some x → Pv i σ H → g x σ H fun σ2 H2 => tb { D with nx := Pv (i + 1), ct := Pv (i + 1), bk := D.nx } σ2 H2) (hd : ∀ σ H, Pv xs.length σ H → D.nx σ H) : kForT K g tb D σ (.ref a) H :=
  ⟨a, rfl, ⟨xs, SqT.of h⟩, for_tup Pv h0 (fun i σ H _ p => SqT.of (hl i σ H p)) hs hd⟩
theorem y_forR (n : Nat) (Pv : Nat → L2.St → Hp → Prop) (hn : n ≤ 1000000) (h0 : Pv 0 σ H)
    (hs : ∀ i σ H, i < n → Pv i σ H → g (.int (i : Int)) σ H fun σ2 H2 => tb { D with nx := Pv (i + 1), ct := Pv (i + 1), bk := D.nx } σ2 H2) (hd : ∀ σ H, Pv n σ H → D.nx σ H) : kForR g tb D σ [.int (n : Int)] H :=
  ⟨(n : Int), rfl, by omega, by omega, for_range (lo := 0) (n := (n : Int).toNat) (fun i σ H => Pv i σ H) h0 (fun i σ H hi p => by
    have e : (0 : Int) + (i : Int) = (i : Int) := by omega
    rw [e]
    exact hs i σ H (by simpa using hi) p) (fun σ H p => hd σ H (by simpa using p))⟩
theorem y_forR2 (lo n : Nat) (Pv : Nat → L2.St → Hp → Prop) {hi : Int} (e : hi = (lo : Int) + n) (hn : lo + n ≤ 1000000) (h0 : Pv 0 σ H)
    (hs : ∀ i σ H, i < n → Pv i σ H → g (.int ((lo + i : Nat) : Int)) σ H fun σ2 H2 => tb { D with nx := Pv (i + 1), ct := Pv (i + 1), bk := D.nx } σ2 H2) (hd : ∀ σ H, Pv n σ H → D.nx σ H) : kForR2 g tb D σ [.int (lo : Int), .int hi] H := by
  subst e
  have en : ((lo : Int) + n - lo).toNat = n := by omega
  refine ⟨(lo : Int), (lo : Int) + n, rfl, ⟨by omega, by omega, by omega, by omega⟩, ?_⟩
  rw [en]
  exact for_range (lo := (lo : Int)) (n := n) Pv h0 (fun i σ H hi p => by
    have e : (lo : Int) + (i : Int) = ((lo + i : Nat) : Int) := by omega
    rw [e]
    exact hs i σ H hi p) hd
/-! ### comprehensions -/
def kLc (J : It) (g : TG) (tt : TT) (te : TE) (vs : List Nat) (σ : L2.St) (H1 : Hp) (Q : VK) : Prop := ∀ D, H1 D = none → ∃ W : Nat → Nat → Hp → Prop, (∃ m, W 0 m (upd H1 D (.lst []))) ∧ ∀ i m H, W i m H →
  (J.stop i H ∧ Q (.ref D) H) ∨ (J.go i H ∧ ∃ Nx : Hp → Prop, (∀ H', Nx H' → ∃ m', m' < m ∧ W (i + 1) m' H') ∧ ∀ x H', J.yld i H x H' → g x (wipe σ vs) H' fun σ2 H2 => wipe σ2 vs = wipe σ vs ∧ tt σ2 H2 fun b H3 =>
    if b = true then te σ2 H3 fun y H4 => ∃ acc, H4 D = some (.lst acc) ∧ acc.length < sizeLine ∧ Nx (upd H4 D (.lst (acc ++ [y]))) else Nx H3)
def kLcL (K : PySem.W.Frag) (g : TG) (tt : TT) (te : TE) (vs : List Nat) (σ : L2.St) (x : V) (H : Hp) (Q : VK) : Prop := ∃ a, x = .ref a ∧ (∃ xs, SqL K H a xs) ∧ kLc (Itl K a) g tt te vs σ H Q
def kLcT (K : PySem.W.Frag) (g : TG) (tt : TT) (te : TE) (vs : List Nat) (σ : L2.St) (x : V) (H : Hp) (Q : VK) : Prop := ∃ a, x = .ref a ∧ (∃ xs, SqT K H a xs) ∧ kLc (Itt K a) g tt te vs σ H Q
def kLcR (g : TG) (tt : TT) (te : TE) (vs : List Nat) (σ : L2.St) (us : List V) (H : Hp) (Q : VK) : Prop := ∃ j : Int, us = [.int j] ∧ -(2 ^ 62) ≤ j ∧ j < 2 ^ 62 ∧ kLc (Itr 0 j.toNat) g tt te vs σ H Q
theorem x_lcL (q : tl σ H fun x H1 => kLcL K g tt te vs σ x H1 Q) : tLc (iList K tl) g tt te vs σ H Q := q
theorem x_lcT (q : tl σ H fun x H1 => kLcT K g tt te vs σ x H1 Q) : tLc (iTup K tl) g tt te vs σ H Q := q
theorem x_lcR {ta : TA} (q : ta σ H fun us H1 => kLcR g tt te vs σ us H1 Q) : tLc (iRng1 ta) g tt te vs σ H Q := q
/-- one turn of a comprehension: y is appended (c), or nothing -/
def turnLc (g : TG) (tt : TT) (te : TE) (vs : List Nat) (σ : L2.St) (x : V) (H : Hp) (ok : V → Hp → Prop) (no : Hp → Prop) : Prop :=
  g x (wipe σ vs) H fun σ2 H2 => wipe σ2 vs = wipe σ vs ∧ tt σ2 H2 fun b H3 => if b = true then te σ2 H3 ok else no H3
/-- what the loop knows: the list at E holds acc, of which R i acc is known; S: what the turns may write; J: what they keep -/
structure LcI (S : List Addr) (J : Hp → Prop) (R : Nat → List V → Hp → Prop) (E : Addr) (H0 : Hp) (i : Nat) (H : Hp) : Prop where
  go : Go S H0 H
  at_ : ∃ acc, H E = some (.lst acc) ∧ acc.length ≤ i ∧ R i acc H
  j : J H
theorem lc_turn {S : List Addr} {J : Hp → Prop} {R : Nat → List V → Hp → Prop} {E : Addr} {H0 H : Hp} {i n : Nat} {x : V} (hn : n ≤ 100000) (hi : i < n) (nE : H0 E = none) (hS : ∀ s ∈ S, H0 s ≠ none)
    (mR : ∀ i acc H H', Go [E] H H' → R i acc H → R i acc H') (mJ : ∀ H H', Go [E] H H' → J H → J H')
    (w : LcI S J R E H0 i H)
    (h : ∀ acc, H E = some (.lst acc) → R i acc H → J H → turnLc g tt te vs σ x H (fun y H4 => Go S H H4 ∧ J H4 ∧ R (i + 1) (acc ++ [y]) H4) (fun H4 => Go S H H4 ∧ J H4 ∧ R (i + 1) acc H4))
    (mono : ∀ ok ok' no no', (∀ y H, ok y H → ok' y H) → (∀ H, no H → no' H) → turnLc g tt te vs σ x H ok no → turnLc g tt te vs σ x H ok' no') :
    turnLc g tt te vs σ x H (fun y H4 => ∃ acc, H4 E = some (.lst acc) ∧ acc.length < sizeLine ∧ LcI S J R E H0 (i + 1) (upd H4 E (.lst (acc ++ [y])))) (fun H4 => LcI S J R E H0 (i + 1) H4) := by
  obtain ⟨acc, hE, hl, r⟩ := w.at_
  have nS : E ∉ S := fun z => hS E z nE
  refine mono _ _ _ _ (fun y H4 ⟨g4, j4, r4⟩ => ?_) (fun H4 ⟨g4, j4, r4⟩ => ?_) (h acc hE r w.j)
  · have hE4 : H4 E = some (.lst acc) := g4.keep E _ nS hE
    have gE : Go [E] H4 (upd H4 E (.lst (acc ++ [y]))) := Go.set hE4 (by intro xs z; cases z)
    refine ⟨acc, hE4, Nat.lt_of_le_of_lt hl (Nat.lt_of_lt_of_le (Nat.lt_of_lt_of_le hi hn) (by decide)), ⟨⟨fun b o m e => ?_, fun b xs e => ?_⟩, ⟨acc ++ [y], upd_same, by simp; omega, mR _ _ _ _ gE r4⟩, mJ _ _ gE j4⟩⟩
    · rw [upd_ne (ne_of_none e nE)]
      exact (w.go.trans g4).keep b o m e
    · rw [upd_ne (ne_of_none e nE)]
      exact (w.go.trans g4).tup b xs e
  · exact ⟨w.go.trans g4, ⟨acc, g4.keep E _ nS hE, Nat.le_succ_of_le hl, r4⟩, j4⟩
theorem lc_start {S : List Addr} {J : Hp → Prop} {R : Nat → List V → Hp → Prop} {E : Addr} (nE : H E = none) (j : J H) (mJ : ∀ H', Ex H H' → J H → J H') (r : ∀ H', Ex H H' → R 0 [] H') : LcI S J R E H 0 (upd H E (.lst [])) :=
  ⟨(Ex.new nE).go, ⟨[], upd_same, Nat.le_refl _, r _ (Ex.new nE)⟩, mJ _ (Ex.new nE) j⟩
end
end Y
/-! part A8 -/
/-! Comprehensions whose items are data, in one rule each. -/
namespace Y
open PySem L2
section
variable {K : PySem.W.Frag} {σ : L2.St} {H : Hp} {Q : VK} {D : Ends} {g : TG} {tt : TT} {te : TE} {vs : List Nat} {a : Addr} {xs : List V}
/-- what a comprehension knows behind i turns -/
structure LcK (K : PySem.W.Frag) (S : List Addr) (J : Hp → Prop) (Pd : Nat → List PyData → Prop) (E : Addr) (H0 : Hp) (i : Nat) (H : Hp) : Prop where
  go : Go S H0 H
  at_ : ∃ acc ds, H E = some (.lst acc) ∧ WtL K H acc ds ∧ tupOnlyL ds = true ∧ acc.length ≤ i ∧ Pd i ds
  j : J H
def Keeps (H0 : Hp) (J : Hp → Prop) : Prop := ∀ E H1 H2, H0 E = none → Go [E] H1 H2 → J H1 → J H2
theorem keeps_true {H0 : Hp} : Keeps H0 fun _ => True := fun _ _ _ _ _ _ => trivial
theorem keeps_at {H0 : Hp} {b : Addr} {p : HO → Prop} (h : H0 b ≠ none) : Keeps H0 fun H => ∃ o, H b = some o ∧ p o := fun E H1 H2 n g ⟨o, e, q⟩ =>
  ⟨o, g.keep b o (fun z => h (by rw [List.mem_singleton.mp z]; exact n)) e, q⟩
theorem go_drop {S : List Addr} {E : Addr} {H0 H H' : Hp} (nE : H0 E = none) (g : Go S H0 H) (g' : Go [E] H H') : Go S H0 H' :=
  ⟨fun b o m e => g'.keep b o (fun z => by rw [List.mem_singleton.mp z, nE] at e; cases e) (g.keep b o m e), fun b xs e => g'.tup b xs (g.tup b xs e)⟩
theorem lck_start {S : List Addr} {J : Hp → Prop} {Pd : Nat → List PyData → Prop} {E : Addr} (nE : H E = none) (kJ : Keeps H J) (j : J H) (p0 : Pd 0 []) : LcK K S J Pd E H 0 (upd H E (.lst [])) :=
  ⟨(Ex.new nE).go, ⟨[], [], upd_same, .nil, rfl, Nat.le_refl _, p0⟩, kJ E H _ nE (Ex.new nE).go j⟩
theorem lck_snoc {S : List Addr} {J : Hp → Prop} {Pd : Nat → List PyData → Prop} {E : Addr} {H0 H4 : Hp} {i : Nat} {acc : List V} {ds : List PyData} {y : V} {d : PyData} (hn : i < 100000) (nE : H0 E = none) (kJ : Keeps H0 J)
    (go : Go S H0 H4) (hE : H4 E = some (.lst acc)) (hl : acc.length ≤ i) (w : WtL K H4 acc ds) (t : tupOnlyL ds = true) (j : J H4) (wy : Wt K H4 y d) (ty : tupOnly d = true) (p : Pd (i + 1) (ds ++ [d])) :
    ∃ acc, H4 E = some (.lst acc) ∧ acc.length < sizeLine ∧ LcK K S J Pd E H0 (i + 1) (upd H4 E (.lst (acc ++ [y]))) := by
  have gE : Go [E] H4 (upd H4 E (.lst (acc ++ [y]))) := Go.set hE (by intro xs z; cases z)
  have tt : tupOnlyL (ds ++ [d]) = true := by
    clear w p
    induction ds with
    | nil => simp [tupOnly.tupOnlyL, ty]
    | cons z r ih =>
      simp only [tupOnly.tupOnlyL, Bool.and_eq_true, List.cons_append] at t ⊢
      exact ⟨t.1, ih t.2⟩
  exact ⟨acc, hE, Nat.lt_of_le_of_lt hl (Nat.lt_of_lt_of_le hn (by decide)), go_drop nE go gE, ⟨acc ++ [y], ds ++ [d], upd_same, (w.append (.cons wy .nil)).go gE tt, tt, by simp; omega, p⟩, kJ E _ _ nE gE j⟩
theorem tupOnlyL_iff : ∀ {ds : List PyData}, tupOnlyL ds = true ↔ ∀ d ∈ ds, tupOnly d = true
  | [] => by simp [tupOnly.tupOnlyL]
  | d :: ds => by
    have ih := @tupOnlyL_iff ds
    show (tupOnly d && tupOnlyL ds) = true ↔ _
    rw [Bool.and_eq_true, ih]
    simp
/-- what one turn owes: y with its datum, or nothing -/
def Turn (K : PySem.W.Frag) (S : List Addr) (J : Hp → Prop) (Pd : Nat → List PyData → Prop) (i : Nat) (ds : List PyData) (H1 : Hp) (go : (V → Hp → Prop) → (Hp → Prop) → Prop) : Prop :=
  ∀ (ok : V → Hp → Prop) (no : Hp → Prop), (∀ y d H4, Go S H1 H4 → J H4 → Wt K H4 y d → tupOnly d = true → Pd (i + 1) (ds ++ [d]) → ok y H4) → (∀ H4, Go S H1 H4 → J H4 → Pd (i + 1) ds → no H4) → go ok no
theorem lck_turn {S : List Addr} {J : Hp → Prop} {Pd : Nat → List PyData → Prop} {E : Addr} {H0 H : Hp} {i n : Nat} {x : V} (hn : n ≤ 100000) (hi : i < n) (nE : H0 E = none) (hS : ∀ s ∈ S, H0 s ≠ none) (kJ : Keeps H0 J) (w : LcK K S J Pd E H0 i H)
    (h : ∀ ds, Go S H0 H → J H → Pd i ds → Turn K S J Pd i ds H (turnLc g tt te vs σ x H)) :
    turnLc g tt te vs σ x H (fun y H4 => ∃ acc, H4 E = some (.lst acc) ∧ acc.length < sizeLine ∧ LcK K S J Pd E H0 (i + 1) (upd H4 E (.lst (acc ++ [y])))) (fun H4 => LcK K S J Pd E H0 (i + 1) H4) := by
  obtain ⟨acc, ds, hE, wd, t, hl, p⟩ := w.at_
  have nS : E ∉ S := fun z => hS E z nE
  refine h ds w.go w.j p _ _ (fun y d H4 g4 j4 wy ty p4 => ?_) fun H4 g4 j4 p4 => ?_
  · exact lck_snoc (Nat.lt_of_lt_of_le hi hn) nE kJ (w.go.trans g4) (g4.keep E _ nS hE) hl (wd.go g4 t) t j4 wy ty p4
  · exact ⟨w.go.trans g4, ⟨acc, ds, g4.keep E _ nS hE, wd.go g4 t, t, Nat.le_succ_of_le hl, p4⟩, j4⟩
variable (S : List Addr) (J : Hp → Prop) (Pd : Nat → List PyData → Prop)
theorem y_lcT (h : H a = some (.tup xs)) (hn : xs.length ≤ 100000) (hS : ∀ s ∈ S, H s ≠ none) (kJ : Keeps H J) (j : J H) (p0 : Pd 0 [])
    (turn : ∀ i x H1 ds, xs[i]? = some x → Go S H H1 → J H1 → Pd i ds → Turn K S J Pd i ds H1 (turnLc g tt te vs σ x H1))
    (fin : ∀ E acc ds H', H E = none → Go S H H' → J H' → H' E = some (.lst acc) → WtL K H' acc ds → tupOnlyL ds = true → Pd xs.length ds → Q (.ref E) H') : kLcT K g tt te vs σ (.ref a) H Q := by
  refine ⟨a, rfl, ⟨xs, SqT.of h⟩, fun E nE => lc_tup (Qd := fun H' => Q (.ref E) H') (fun i H' => LcK K S J Pd E H i H') (lck_start nE kJ j p0) (fun i H' _ w => SqT.of (w.go.tup a xs h)) (fun i x H' hx w => ?_) fun H' w => ?_⟩
  · exact lck_turn hn (List.getElem?_eq_some_iff.mp hx).1 nE hS kJ w fun ds g j p => turn i x H' ds hx g j p
  · obtain ⟨acc, ds, hE, wd, t, hl, p⟩ := w.at_
    exact fin E acc ds H' nE w.go w.j hE wd t p
theorem y_lcL (h : H a = some (.lst xs)) (ha : a ∉ S) (hn : xs.length ≤ 100000) (hS : ∀ s ∈ S, H s ≠ none) (kJ : Keeps H J) (j : J H) (p0 : Pd 0 [])
    (turn : ∀ i x H1 ds, xs[i]? = some x → Go S H H1 → J H1 → Pd i ds → Turn K S J Pd i ds H1 (turnLc g tt te vs σ x H1))
    (fin : ∀ E acc ds H', H E = none → Go S H H' → J H' → H' E = some (.lst acc) → WtL K H' acc ds → tupOnlyL ds = true → Pd xs.length ds → Q (.ref E) H') : kLcL K g tt te vs σ (.ref a) H Q := by
  refine ⟨a, rfl, ⟨xs, SqL.of h⟩, fun E nE => lc_list (Qd := fun H' => Q (.ref E) H') (fun i H' => LcK K S J Pd E H i H') (lck_start nE kJ j p0) (fun i H' _ w => SqL.of (w.go.keep a _ ha h)) (fun i x H' hx w => ?_) fun H' w => ?_⟩
  · exact lck_turn hn (List.getElem?_eq_some_iff.mp hx).1 nE hS kJ w fun ds g j p => turn i x H' ds hx g j p
  · obtain ⟨acc, ds, hE, wd, t, hl, p⟩ := w.at_
    exact fin E acc ds H' nE w.go w.j hE wd t p
theorem y_lcR (n : Nat) (hn : n ≤ 100000) (hS : ∀ s ∈ S, H s ≠ none) (kJ : Keeps H J) (j : J H) (p0 : Pd 0 [])
    (turn : ∀ i H1 ds, i < n → Go S H H1 → J H1 → Pd i ds → Turn K S J Pd i ds H1 (turnLc g tt te vs σ (.int (i : Int)) H1))
    (fin : ∀ E acc ds H', H E = none → Go S H H' → J H' → H' E = some (.lst acc) → WtL K H' acc ds → tupOnlyL ds = true → Pd n ds → Q (.ref E) H') : kLcR g tt te vs σ [.int (n : Int)] H Q := by
  refine ⟨(n : Int), rfl, by omega, by omega, ?_⟩
  rw [Int.toNat_natCast]
  refine fun E nE => lc_range (Qd := fun H' => Q (.ref E) H') (fun i H' => LcK K S J Pd E H i H') (lck_start nE kJ j p0) (fun i H' hi w => ?_) fun H' w => ?_
  · have e : (0 : Int) + (i : Int) = (i : Int) := by omega
    rw [e]
    exact lck_turn hn hi nE hS kJ w fun ds g j p => turn i H' ds hi g j p
  · obtain ⟨acc, ds, hE, wd, t, hl, p⟩ := w.at_
    exact fin E acc ds H' nE w.go w.j hE wd t p
/-- the turn behind a name as target -/
theorem turn_name {i : Nat} {te : TE} {x : V} {ok : V → Hp → Prop} {no : Hp → Prop} (hw : wipe ((wipe σ vs).set i (some x)) vs = wipe σ vs) (q : te ((wipe σ vs).set i (some x)) H ok) : turnLc (gName i) tYes te vs σ x H ok no := ⟨hw, q⟩
theorem turn_nameT {i : Nat} {te : TE} {x : V} {ok : V → Hp → Prop} {no : Hp → Prop} (hw : wipe ((wipe σ vs).set i (some x)) vs = wipe σ vs) (q : tt ((wipe σ vs).set i (some x)) H fun b H3 => if b = true then te ((wipe σ vs).set i (some x)) H3 ok else no H3) : turnLc (gName i) tt te vs σ x H ok no := ⟨hw, q⟩
end
section
variable {K : PySem.W.Frag} {H : Hp} {Q : VK}
theorem bools_of : ∀ {acc : List V} {bs : List Bool}, WtL K H acc (bs.map .bool) → acc = bs.map V.bl
  | _, [], .nil => rfl
  | _, b :: bs, .cons (.bl _) r => by rw [bools_of r]; rfl
theorem ints_of : ∀ {acc : List V} {bs : List Int}, WtL K H acc (bs.map .int) → acc = bs.map V.int
  | _, [], .nil => rfl
  | _, b :: bs, .cons (.int _) r => by rw [ints_of r]; rfl
theorem x_all {l : Addr} {acc : List V} {bs : List Bool} (h : H l = some (.lst acc)) (w : WtL K H acc (bs.map .bool)) (q : Q (.bl (bs.all id)) H) : rAll K [.ref l] H Q := by
  rw [bools_of w] at h
  exact ⟨l, bs, rfl, SqL.of h, q⟩
end
end Y
/-! part M0 -/
/-! Plain: keys, pages, entries, slots; what the program's askings answer about data. -/
namespace Y
open PySem L2
/-! ### what is asked of data -/
def isNum : PyData → Bool
  | .int i => decide (0 ≤ i)
  | _ => false
def isRow (d : PyData) : Bool := isLst d || isTup d
def isKey : PyData → Bool
  | .tuple (.str _ :: r) => decide (r.length ≤ 2) && r.all isNum
  | _ => false
def isPlain : PyData → Bool
  | .list _ => false
  | .dict _ => false
  | .tuple xs => plainL xs
  | _ => true
where
  plainL : List PyData → Bool
  | [] => true
  | d :: ds => isPlain d && plainL ds
abbrev plainL := isPlain.plainL
def nodes : PyData → Nat
  | .tuple xs => nodesL xs + 1
  | _ => 1
where
  nodesL : List PyData → Nat
  | [] => 0
  | d :: ds => nodes d + nodesL ds
abbrev nodesL := nodes.nodesL
def aheadOk : Option PyData → PyData → Bool
  | none, _ => true
  | some a, k => PySem.W.dataLt a k
def isPageL : Option PyData → List PyData → Bool
  | _, [] => true
  | a, .tuple [k, v] :: r => isKey k && isPlain v && aheadOk a k && isPageL (some k) r
  | _, _ :: _ => false
def isPage : PyData → Bool
  | .tuple ds => isPageL none ds
  | _ => false
def isEntry : PyData → Bool
  | .tuple [a, b, c, p] => isNum a && isNum b && isNum c && isPage p
  | _ => false
def isSize (n : Int) : Bool := decide (0 ≤ n) && (decide (4 ≤ n) && decide (n ≤ 64)) && decide (n / 2 * 2 = n)
def slotFine (d : PyData) : Bool := PyData.eqv d (.tuple []) || isEntry d
def areSlots (ds : List PyData) : Bool := isSize ds.length && ds.all slotFine
/-! ### keys and pages -/
abbrev KeyT := List L2.Key
abbrev Page := List (KeyT × PyData)
def pairD (kv : KeyT × PyData) : PyData := .tuple [tkD kv.1, kv.2]
def pageD (p : Page) : PyData := .tuple (p.map pairD)
structure Entry where
  g : Nat
  l : Nat
  n : Nat
  p : Page
def entD (e : Entry) : PyData := .tuple [.int e.g, .int e.l, .int e.n, pageD e.p]
abbrev Slot := Option Entry
def slD : Slot → PyData
  | none => .tuple []
  | some e => entD e
def words : List Str := ["map", "cell", "floor", "", "a b"]
def digs : List Int := [0, 1, 2, 3, 4, 5, 10 ^ 12]
def uni : List KeyT := words.flatMap fun x => [.inr x] :: digs.flatMap fun i => [.inr x, .inl i] :: digs.map fun j => [.inr x, .inl i, .inl j]
def valOk (d : PyData) : Bool := isPlain d && tupOnly d && d.canLay0 && decide (d.depth ≤ 3) && decide (nodes d ≤ 20)
def keyLt (a b : KeyT) : Bool := PySem.W.dataLt (tkD a) (tkD b)
structure PageOk (p : Page) : Prop where
  ks : ∀ kv ∈ p, kv.1 ∈ uni
  vs : ∀ kv ∈ p, valOk kv.2 = true
  up : p.Pairwise fun a b => keyLt a.1 b.1 = true
/-! ### keys in order -/
theorem toks_cons (x : L2.Key) (k : KeyT) : PySem.W.keyToksAll ((x :: k).map kD) = .inl 1 :: (PySem.W.keyToks (kD x) ++ PySem.W.keyToksAll (k.map kD)) := by
  rw [List.map_cons, PySem.W.toks_all_cons]
theorem toks_inj : ∀ {a b : KeyT}, PySem.W.keyToksAll (a.map kD) = PySem.W.keyToksAll (b.map kD) → a = b
  | [], [], _ => rfl
  | [], y :: b, h => by rw [toks_cons] at h; simp [PySem.W.keyToksAll] at h
  | x :: a, [], h => by rw [toks_cons] at h; simp [PySem.W.keyToksAll] at h
  | x :: a, y :: b, h => by
    rw [toks_cons, toks_cons] at h
    have h := (List.cons.inj h).2
    cases x with
    | inl i =>
      cases y with
      | inl j =>
        simp only [kD, PySem.W.keyToks, List.cons_append, List.nil_append, List.cons.injEq, Sum.inl.injEq] at h
        rw [h.1, toks_inj h.2]
      | inr j => simp [kD, PySem.W.keyToks] at h
    | inr i =>
      cases y with
      | inl j => simp [kD, PySem.W.keyToks] at h
      | inr j =>
        simp only [kD, PySem.W.keyToks, List.cons_append, List.nil_append, List.cons.injEq, Sum.inr.injEq] at h
        rw [PySem.W.str_of_cps h.1, toks_inj h.2]
theorem keyLt_irrefl (a : KeyT) : keyLt a a = false := PyProof.Rows.lex_irrefl _
theorem keyLt_trans {a b c : KeyT} (h1 : keyLt a b = true) (h2 : keyLt b c = true) : keyLt a c = true := PyProof.Rows.lex_trans _ _ _ h1 h2
theorem keyLt_total {a b : KeyT} (h1 : keyLt a b = false) (h2 : keyLt b a = false) : a = b := by
  have h := PyProof.Rows.lex_total _ _ h1 h2
  simp only [tkD, PySem.W.keyToks] at h
  exact toks_inj h
theorem dataLe_key (a b : KeyT) : PySem.W.dataLe false tkD a b = !keyLt b a := rfl
abbrev sortKs (ks : List KeyT) : List KeyT := ks.mergeSort (PySem.W.dataLe false tkD)
theorem sortKs_mem {ks : List KeyT} {k : KeyT} : k ∈ sortKs ks ↔ k ∈ ks := List.mem_mergeSort
theorem sortKs_up {ks : List KeyT} (h : ks.Nodup) : (sortKs ks).Pairwise fun a b => keyLt a b = true := by
  have t := PySem.W.sortLe_total (PyProof.Rows.listOrd PyProof.Rows.itemOrd) false fun (k : KeyT) => PySem.W.keyToks (tkD k)
  have hs : (sortKs ks).Pairwise fun a b => PySem.W.dataLe false tkD a b = true := List.pairwise_mergeSort (le := PySem.W.dataLe false tkD) (fun a b c h1 h2 => t.trans a b c h1 h2) (fun a b => Bool.or_eq_true_iff.mpr (t.total a b)) ks
  have hn : (sortKs ks).Nodup := (List.mergeSort_perm ks _).nodup_iff.mpr h
  exact (hs.and hn).imp fun {a b} ⟨h1, h2⟩ => by
    rw [dataLe_key] at h1
    cases e : keyLt a b with
    | true => rfl
    | false => exact absurd (keyLt_total e (by simpa using h1)) h2
/-! ### a page laid over another -/
def valP (kvs : Page) (k : KeyT) : PyData := ((kvs.find? fun kv => decide (kv.1 = k)).map (·.2)).getD .none
def putP (kvs : Page) (k : KeyT) (v : PyData) : Page :=
  if (kvs.any fun kv => decide (kv.1 = k)) = true then kvs.map (fun kv => if kv.1 = k then (kv.1, v) else kv) else kvs ++ [(k, v)]
def putAll (kvs : Page) (r : Page) : Page := r.foldl (fun a kv => putP a kv.1 kv.2) kvs
def sortP (kvs : Page) : Page := (sortKs (kvs.map (·.1))).map fun k => (k, valP kvs k)
def over (p r : Page) : Page := sortP (putAll (putAll [] p) r)
/-- a table: keys of their own, all fine -/
structure TabOk (t : Page) : Prop where
  ks : ∀ kv ∈ t, kv.1 ∈ uni
  vs : ∀ kv ∈ t, valOk kv.2 = true
  nd : (t.map (·.1)).Nodup
theorem TabOk.nil : TabOk [] := ⟨by simp, by simp, by simp⟩
theorem putP_keys (t : Page) (k : KeyT) (v : PyData) : (putP t k v).map (·.1) = if (t.any fun kv => decide (kv.1 = k)) = true then t.map (·.1) else t.map (·.1) ++ [k] := by
  unfold putP
  split
  · rw [List.map_map]
    refine List.map_congr_left fun kv _ => ?_
    simp only [Function.comp]
    split <;> rfl
  · simp
theorem TabOk.put {t : Page} {k : KeyT} {v : PyData} (h : TabOk t) (hk : k ∈ uni) (hv : valOk v = true) : TabOk (putP t k v) := by
  refine ⟨fun kv m => ?_, fun kv m => ?_, ?_⟩
  · unfold putP at m
    split at m
    · obtain ⟨x, hx, e⟩ := List.mem_map.mp m
      split at e
      · subst e; exact h.ks x hx
      · subst e; exact h.ks x hx
    · rcases List.mem_append.mp m with m | m
      · exact h.ks kv m
      · rw [List.mem_singleton.mp m]; exact hk
  · unfold putP at m
    split at m
    · obtain ⟨x, hx, e⟩ := List.mem_map.mp m
      split at e
      · subst e; exact hv
      · subst e; exact h.vs x hx
    · rcases List.mem_append.mp m with m | m
      · exact h.vs kv m
      · rw [List.mem_singleton.mp m]; exact hv
  · rw [putP_keys]
    split
    · exact h.nd
    · rename_i hn
      refine List.nodup_append.mpr ⟨h.nd, by simp, fun a ha b hb e => ?_⟩
      rw [List.mem_singleton.mp hb] at e
      subst e
      obtain ⟨x, hx, ex⟩ := List.mem_map.mp ha
      exact hn (List.any_eq_true.mpr ⟨x, hx, by simp [ex]⟩)
theorem PageOk.tab {p : Page} (h : PageOk p) : TabOk p := ⟨h.ks, h.vs, by
  have := h.up
  unfold List.Nodup
  rw [List.pairwise_map]
  exact this.imp fun {a b} hl e => by rw [e, keyLt_irrefl] at hl; cases hl⟩
theorem TabOk.putAll {r : Page} : ∀ {t : Page}, TabOk t → (∀ kv ∈ r, kv.1 ∈ uni) → (∀ kv ∈ r, valOk kv.2 = true) → TabOk (putAll t r) := by
  induction r with
  | nil => intro t h _ _; exact h
  | cons x r ih =>
    intro t h h1 h2
    exact ih (h.put (h1 x (List.mem_cons_self ..)) (h2 x (List.mem_cons_self ..))) (fun kv m => h1 kv (List.mem_cons_of_mem _ m)) fun kv m => h2 kv (List.mem_cons_of_mem _ m)
theorem valP_mem {t : Page} {k : KeyT} (h : k ∈ t.map (·.1)) : (k, valP t k) ∈ t := by
  obtain ⟨x, hx, e⟩ := List.mem_map.mp h
  unfold valP
  cases q : t.find? fun kv => decide (kv.1 = k) with
  | none =>
    have := List.find?_eq_none.mp q x hx
    simp [e] at this
  | some y =>
    have h1 := List.find?_some q
    have h2 := List.mem_of_find?_eq_some q
    have h1 : y.1 = k := by simpa using h1
    subst h1
    exact h2
theorem TabOk.sort {t : Page} (h : TabOk t) : PageOk (sortP t) := by
  refine ⟨fun kv m => ?_, fun kv m => ?_, ?_⟩
  · obtain ⟨k, hk, rfl⟩ := List.mem_map.mp m
    exact h.ks _ (valP_mem (sortKs_mem.mp hk))
  · obtain ⟨k, hk, rfl⟩ := List.mem_map.mp m
    exact h.vs _ (valP_mem (sortKs_mem.mp hk))
  · unfold sortP
    rw [List.pairwise_map]
    exact sortKs_up h.nd
theorem PageOk.over {p r : Page} (hp : PageOk p) (hr : PageOk r) : PageOk (over p r) :=
  ((TabOk.nil.putAll hp.ks hp.vs).putAll hr.ks hr.vs).sort
theorem PageOk.nil : PageOk [] := ⟨by simp, by simp, .nil⟩
theorem nodup_len {α : Type} [DecidableEq α] : ∀ {a b : List α}, a.Nodup → (∀ x ∈ a, x ∈ b) → a.length ≤ b.length
  | [], b, _, _ => Nat.zero_le _
  | x :: a, b, h, s => by
    have hx := s x (List.mem_cons_self ..)
    have h' := List.nodup_cons.mp h
    have := nodup_len (a := a) (b := b.erase x) h'.2 fun y hy => (List.mem_erase_of_ne (by rintro rfl; exact h'.1 hy)).mpr (s y (List.mem_cons_of_mem _ hy))
    rw [List.length_erase_of_mem hx] at this
    have := List.length_pos_of_mem hx
    rw [List.length_cons]
    omega
theorem uni_len : uni.length = 285 := by decide +kernel
theorem TabOk.len {t : Page} (h : TabOk t) : t.length ≤ 285 := by
  have := nodup_len h.nd (b := uni) fun x hx => by
    obtain ⟨y, hy, e⟩ := List.mem_map.mp hx
    rw [← e]
    exact h.ks y hy
  rw [uni_len, List.length_map] at this
  exact this
theorem PageOk.len {p : Page} (h : PageOk p) : p.length ≤ 285 := h.tab.len
/-! ### keys of the universe -/
def keyFine (k : KeyT) : Bool := isKey (tkD k) && (tkD k).canLay0 && decide (k.length ≤ 3) && decide (k ≠ [])
theorem uni_fine : uni.all keyFine = true := by decide +kernel
theorem uni_alike : uni.all (fun k => uni.all fun l => PySem.W.alikeAll (k.map kD) (l.map kD)) = true := by decide +kernel
theorem fine_of {k : KeyT} (h : k ∈ uni) : keyFine k = true := List.all_eq_true.mp uni_fine k h
theorem alike_of {k l : KeyT} (h : k ∈ uni) (h' : l ∈ uni) : PySem.W.alikeAll (k.map kD) (l.map kD) = true := List.all_eq_true.mp (List.all_eq_true.mp uni_alike k h) l h'
theorem key_is {k : KeyT} (h : k ∈ uni) : isKey (tkD k) = true := by
  have := fine_of h
  simp only [keyFine, Bool.and_eq_true] at this
  exact this.1.1.1
theorem key_lay {k : KeyT} (h : k ∈ uni) : (tkD k).canLay0 = true := by
  have := fine_of h
  simp only [keyFine, Bool.and_eq_true] at this
  exact this.1.1.2
theorem key_len {k : KeyT} (h : k ∈ uni) : k.length ≤ 3 := by
  have := fine_of h
  simp only [keyFine, Bool.and_eq_true, decide_eq_true_eq] at this
  exact this.1.2
theorem key_ne {k : KeyT} (h : k ∈ uni) : k ≠ [] := by
  have := fine_of h
  simp only [keyFine, Bool.and_eq_true, decide_eq_true_eq] at this
  exact this.2
structure ValFine (d : PyData) : Prop where
  pl : isPlain d = true
  to : tupOnly d = true
  ly : d.canLay0 = true
  dp : d.depth ≤ 3
  nd : nodes d ≤ 20
theorem val_of {d : PyData} (h : valOk d = true) : ValFine d := by
  simp only [valOk, Bool.and_eq_true, decide_eq_true_eq] at h
  exact ⟨h.1.1.1.1, h.1.1.1.2, h.1.1.2, h.1.2, h.2⟩
theorem kD_to (k : KeyT) : tupOnlyL (k.map kD) = true := by
  induction k with
  | nil => rfl
  | cons x k ih => cases x <;> exact ih
theorem tkD_to (k : KeyT) : tupOnly (tkD k) = true := kD_to k
theorem tkD_depth (k : KeyT) : (tkD k).depth = 1 := by
  show PyData.depthAll (k.map kD) + 1 = 1
  rw [depth_key]
theorem pairD_to {kv : KeyT × PyData} (h : valOk kv.2 = true) : tupOnly (pairD kv) = true := by
  show (tupOnly (tkD kv.1) && (tupOnly kv.2 && true)) = true
  rw [tkD_to, (val_of h).to]
  rfl
theorem depthAll_le {n : Nat} : ∀ {ds : List PyData}, (∀ d ∈ ds, d.depth ≤ n) → PyData.depthAll ds ≤ n
  | [], _ => Nat.zero_le _
  | d :: ds, h => by
    show max d.depth (PyData.depthAll ds) ≤ n
    exact Nat.max_le.mpr ⟨h d (List.mem_cons_self ..), depthAll_le fun x hx => h x (List.mem_cons_of_mem _ hx)⟩
theorem layAll {ds : List PyData} (h : ∀ d ∈ ds, d.canLay0 = true) : PyData.canLayAll0 ds = true := by
  induction ds with
  | nil => rfl
  | cons d ds ih =>
    show (d.canLay0 && PyData.canLayAll0 ds) = true
    rw [h d (List.mem_cons_self ..), ih fun x hx => h x (List.mem_cons_of_mem _ hx)]
    rfl
structure Lay (n : Nat) (d : PyData) : Prop where
  to : tupOnly d = true
  ly : d.canLay0 = true
  dp : d.depth ≤ n
theorem Lay.tup {n : Nat} {ds : List PyData} (h : ∀ d ∈ ds, Lay n d) : Lay (n + 1) (.tuple ds) :=
  ⟨tupOnlyL_iff.mpr fun d hd => (h d hd).to, layAll fun d hd => (h d hd).ly, Nat.succ_le_succ (depthAll_le fun d hd => (h d hd).dp)⟩
theorem Lay.shaped {n : Nat} {d : PyData} (h : Lay n d) (hn : n ≤ 64 := by decide) : SeqAt.shaped d = true := by
  unfold SeqAt.shaped
  rw [h.ly, decide_eq_true (Nat.le_trans h.dp hn)]
  rfl
theorem Lay.mono {n m : Nat} {d : PyData} (h : Lay n d) (l : n ≤ m) : Lay m d := ⟨h.to, h.ly, Nat.le_trans h.dp l⟩
theorem lay_key {k : KeyT} (h : k ∈ uni) : Lay 1 (tkD k) := ⟨tkD_to k, key_lay h, Nat.le_of_eq (tkD_depth k)⟩
theorem lay_val {d : PyData} (h : valOk d = true) : Lay 3 d := ⟨(val_of h).to, (val_of h).ly, (val_of h).dp⟩
theorem lay_int (i : Int) : Lay 0 (.int i) := ⟨rfl, rfl, Nat.le_refl _⟩
theorem lay_pair {k : KeyT} {d : PyData} (h : k ∈ uni) (h' : valOk d = true) : Lay 4 (pairD (k, d)) := Lay.tup fun x hx => by
  simp only [List.mem_cons, List.not_mem_nil, or_false] at hx
  rcases hx with rfl | rfl
  · exact (lay_key h).mono (by decide)
  · exact lay_val h'
theorem lay_page {p : Page} (h : PageOk p) : Lay 5 (pageD p) := Lay.tup fun x hx => by
  obtain ⟨kv, m, rfl⟩ := List.mem_map.mp hx
  exact lay_pair (h.ks kv m) (h.vs kv m)
def EntOk (e : Entry) : Prop := PageOk e.p
def SlotOk (s : Slot) : Prop := ∀ e, s = some e → EntOk e
theorem lay_ent {e : Entry} (h : EntOk e) : Lay 6 (entD e) := Lay.tup fun x hx => by
  simp only [List.mem_cons, List.not_mem_nil, or_false] at hx
  rcases hx with rfl | rfl | rfl | rfl
  · exact (lay_int _).mono (by decide)
  · exact (lay_int _).mono (by decide)
  · exact (lay_int _).mono (by decide)
  · exact lay_page h
theorem lay_slot {s : Slot} (h : SlotOk s) : Lay 6 (slD s) := by
  cases s with
  | none => exact ⟨rfl, rfl, by decide⟩
  | some e => exact lay_ent (h e rfl)
theorem lay_slots {S : List Slot} (h : ∀ s ∈ S, SlotOk s) : Lay 7 (.tuple (S.map slD)) := Lay.tup fun x hx => by
  obtain ⟨s, m, rfl⟩ := List.mem_map.mp hx
  exact lay_slot (h s m)
/-! ### what the askings answer of fine things -/
theorem isPageL_ok : ∀ {p : Page} {a : Option PyData}, (∀ kv ∈ p, kv.1 ∈ uni) → (∀ kv ∈ p, valOk kv.2 = true) → (p.Pairwise fun a b => keyLt a.1 b.1 = true) → (∀ kv, p.head? = some kv → aheadOk a (tkD kv.1) = true) → isPageL a (p.map pairD) = true
  | [], _, _, _, _, _ => rfl
  | kv :: r, a, h1, h2, h3, h4 => by
    have ih := isPageL_ok (p := r) (a := some (tkD kv.1)) (fun x m => h1 x (List.mem_cons_of_mem _ m)) (fun x m => h2 x (List.mem_cons_of_mem _ m)) (List.pairwise_cons.mp h3).2 fun x hx => (List.pairwise_cons.mp h3).1 x (List.mem_of_mem_head? hx)
    show (isKey (tkD kv.1) && isPlain kv.2 && aheadOk a (tkD kv.1) && isPageL (some (tkD kv.1)) (r.map pairD)) = true
    rw [ih, key_is (h1 kv (List.mem_cons_self ..)), (val_of (h2 kv (List.mem_cons_self ..))).pl, h4 kv rfl]
    rfl
theorem isPage_ok {p : Page} (h : PageOk p) : isPage (pageD p) = true := isPageL_ok h.ks h.vs h.up fun _ _ => rfl
theorem isEntry_ok {e : Entry} (h : EntOk e) : isEntry (entD e) = true := by
  show (isNum (.int e.g) && isNum (.int e.l) && isNum (.int e.n) && isPage (pageD e.p)) = true
  rw [isPage_ok h]
  simp [isNum]
theorem slotFine_ok {s : Slot} (h : SlotOk s) : slotFine (slD s) = true := by
  cases s with
  | none => rfl
  | some e =>
    unfold slotFine
    rw [show slD (some e) = entD e from rfl, isEntry_ok (h e rfl), Bool.or_true]
theorem areSlots_ok {S : List Slot} (h : ∀ s ∈ S, SlotOk s) (hs : isSize S.length = true) : areSlots (S.map slD) = true := by
  unfold areSlots
  rw [List.length_map, hs, Bool.true_and, List.all_map]
  exact List.all_eq_true.mpr fun s m => slotFine_ok (h s m)
end Y
/-! part B0 -/
/-! The text by places; small defs: numbers, rows, lots, sizes. -/
namespace Y
open PySem L2
local macro_rules | `(tactic| walk_at "y1") => `(tactic| (first
  | (with_reducible refine x_seq ?_) | (with_reducible refine x_asg ?_) | (with_reducible refine x_name ?_) | (with_reducible refine x_drop ?_) | (with_reducible refine x_ret ?_) | (with_reducible refine x_retN ?_)
  | (with_reducible refine x_next ?_) | (with_reducible refine x_brk ?_) | (with_reducible refine x_ifS ?_)
  | (with_reducible refine x_c ?_) | (with_reducible refine x_op ?_) | (with_reducible refine x_un ?_) | (with_reducible refine x_cb ?_) | (with_reducible refine x_cons ?_) | (with_reducible refine x_nil ?_)
  | (with_reducible refine x_call ?_) | (with_reducible refine x_tup ?_) | (with_reducible refine x_lst ?_) | (with_reducible refine x_sl ?_) | (with_reducible refine x_nopart ?_) | (with_reducible refine x_part ?_)
  | (with_reducible refine x_andV ?_) | (with_reducible refine x_orV ?_) | (with_reducible refine x_notV ?_) | (with_reducible refine x_if ?_) | (with_reducible refine x_test ?_) | (with_reducible refine x_tb ?_)
  | (with_reducible refine x_and ?_) | (with_reducible refine x_or ?_) | (with_reducible refine x_not ?_) | (with_reducible refine x_chain ?_) | (with_reducible refine x_exbl ?_) | (with_reducible refine x_exint ?_)
  | (with_reducible refine x_fld ?_) | (with_reducible refine x_sfld ?_) | (with_reducible refine x_par ?_) | (with_reducible refine x_par3 ?_) | (with_reducible refine x_dget ?_) | (with_reducible refine x_dput ?_)
  | (with_reducible refine x_bm ?_) | (with_reducible refine x_bm0 ?_) | (with_reducible refine x_pair ?_) | (with_reducible refine x_tri ?_) | (with_reducible refine x_int ?_) | (with_reducible refine x_intb ?_) | (with_reducible refine x_abs ?_) | (with_reducible refine x_isN ?_) | (with_reducible refine x_notN ?_) | (with_reducible refine x_meth ?_) | (with_reducible refine x_make ?_)
  | (with_reducible refine x_ite1 ?_) | (with_reducible refine x_ite0 ?_)
  | (with_reducible refine x_addi ?_) | (with_reducible refine x_neg ?_) | (with_reducible refine x_i0 ?_) | (with_reducible refine x_eqi ?_) | (with_reducible refine x_eqs ?_) | (with_reducible refine x_eqb ?_) | (with_reducible refine x_nei ?_) | (with_reducible refine x_lti ?_)
  | (with_reducible refine x_forL ?_) | (with_reducible refine x_forT ?_) | (with_reducible refine x_forR ?_) | (with_reducible refine x_forR2 ?_) | (with_reducible refine x_lcL ?_) | (with_reducible refine x_lcT ?_) | (with_reducible refine x_lcR ?_)
  | (with_reducible refine x_yes ?_) | (with_reducible refine x_pcons ?_) | (with_reducible refine x_pnil ?_) | (with_reducible refine x_gcons ?_) | (with_reducible refine x_gnil ?_) | (with_reducible refine x_gattr ?_) | (with_reducible refine x_raise ?_) | (with_reducible refine x_gsub ?_) | (with_reducible refine x_fldaug ?_) | (with_reducible refine x_radd ?_) | (with_reducible refine x_ipi ?_) | ((with_reducible refine x_aug (x := ?vv) ?hh ?qq); (case hh => exact rfl))
  | ((with_reducible refine x_iteA ?hc ?q); (case hc => exact rfl)) | ((with_reducible refine x_iteB ?hc ?q); (case hc => exact rfl))
  | ((with_reducible refine x_var (v := ?vv) ?hh ?qq); (case hh => exact rfl))
  | ((with_reducible refine r_isInt (d := ?dd) ?hh ?qq); (case hh => assumption)) | ((with_reducible refine r_isBool (d := ?dd) ?hh ?qq); (case hh => assumption)) | ((with_reducible refine r_isTup (d := ?dd) ?hh ?qq); (case hh => assumption))
  | ((with_reducible refine r_isStr (d := ?dd) ?hh ?qq); (case hh => assumption)) | ((with_reducible refine r_isLst (d := ?dd) ?hh ?qq); (case hh => assumption))))
local macro_rules | `(tactic| walk_at "y") => `(tactic| (repeat (walk_at "y1")))
def top (i : Nat) : Stmt := PySem.Challenge.pw_mapsapart_k66_whole_slots_read_back_and.main.body.getD i (.Pass ⟨0, 0, 0, 0⟩)
/-- the built-in names that are still built-in -/
structure Bt (mg : Str → Option Value) : Prop where
  isinstance : mg "isinstance" = none
  len : mg "len" = none
  tuple : mg "tuple" = none
  list : mg "list" = none
  int : mg "int" = none
  str : mg "str" = none
  bool : mg "bool" = none
  all : mg "all" = none
  max : mg "max" = none
  min : mg "min" = none
  range : mg "range" = none
  sorted : mg "sorted" = none
  abs : mg "abs" = none
  gLEAST_SLOTS : ∃ t, mg "LEAST_SLOTS" = some (.int 4 t)
  gMOST_SLOTS : ∃ t, mg "MOST_SLOTS" = some (.int 64 t)
theorem pass_hu64 {k : Nat} {A : Around} (hr : Room k A) : A.units + 64 < cLine := by have := hr.un; omega
section
variable {P : Program} {w : World} {K : PySem.W.Frag} {mg : Str → Option Value} {base : Heap}
/-! ### is_number, is_row -/
def spNum (K : PySem.W.Frag) : Sp := fun vs H Q _ => ∃ v d, vs = [v] ∧ Wt K H v d ∧ Q (.bl (isNum d)) H
def spRow (K : PySem.W.Frag) : Sp := fun vs H Q _ => ∃ v d, vs = [v] ∧ Wt K H v d ∧ ∀ H', Ex H H' → Q (.bl (isRow d)) H'
abbrev s_is_number : Stmt := top 8
abbrev nms_is_number : List Str := ["value"]
theorem sc_is_number : FnScope nms_is_number ["value"] (defScope s_is_number) := ⟨rfl, rfl, rfl, by decide +kernel, rfl, by decide +kernel, by decide +kernel⟩
theorem ok_is_number {f : Addr} {fd : FuncData} (F : Fun K "is_number" "is_number" s_is_number f fd) (hm : mg "is_number" = some (.ref f)) (b : Binds K fd ["value"] []) (T : Bt mg) : Cal P w K mg base 1 "is_number" (spNum K) := by
  refine cal_of F hm b sc_is_number (fun vs H Q E h => ?_) (fun cdv A outer s H vs Q E hr h => ?_)
  · obtain ⟨v, d, rfl, _⟩ := h
    rfl
  · obtain ⟨v, d, rfl, hv, q⟩ := h
    refine ⟨_, (pss_one (ps_ret (pe_and (pe_callB call_isi (by rfl) T.isinstance (by decide +kernel) (pa_cons (pv 0) (pa_cons (pe_bltn (v := .ty "int") (by rfl) T.int (by decide +kernel) rfl) pa_nil))) (pe_and (pe_not (pe_callB call_isi (by rfl) T.isinstance (by decide +kernel) (pa_cons (pv 0) (pa_cons (pe_bltn (v := .ty "bool") (by rfl) T.bool (by decide +kernel) rfl) pa_nil)))) (pe_one (pe_cmpR op_ge (pv 0) pe_int (nomark _))))))), ?_⟩
    try dsimp only [cxOf]
    rcases d with _ | b | i | x | ds | ds | kv
    all_goals
      have hw := hv
      cases hw
      walk_at "y"
      exact q
abbrev s_is_row : Stmt := top 9
abbrev nms_is_row : List Str := ["value"]
theorem sc_is_row : FnScope nms_is_row ["value"] (defScope s_is_row) := ⟨rfl, rfl, rfl, by decide +kernel, rfl, by decide +kernel, by decide +kernel⟩
theorem ok_is_row {f : Addr} {fd : FuncData} (F : Fun K "is_row" "is_row" s_is_row f fd) (hm : mg "is_row" = some (.ref f)) (b : Binds K fd ["value"] []) (T : Bt mg) : Cal P w K mg base 1 "is_row" (spRow K) := by
  refine cal_of F hm b sc_is_row (fun vs H Q E h => ?_) (fun cdv A outer s H vs Q E hr h => ?_)
  · obtain ⟨v, d, rfl, _⟩ := h
    rfl
  · obtain ⟨v, d, rfl, hv, q⟩ := h
    refine ⟨_, (pss_one (ps_ret (pe_callB call_isiT (by rfl) T.isinstance (by decide +kernel) (pa_cons (pv 0) (pa_cons (pe_tup (pa_cons (pe_bltn (v := .ty "list") (by rfl) T.list (by decide +kernel) rfl) (pa_cons (pe_bltn (v := .ty "tuple") (by rfl) T.tuple (by decide +kernel) rfl) pa_nil))) pa_nil))))), ?_⟩
    try dsimp only [cxOf]
    walk_at "y"
    refine x_mkr fun p H1 e1 n1 hp => ?_
    walk_at "y"
    exact x_isiLT (hv.ex e1) hp (q H1 e1)
theorem x_num {H : Hp} {x : V} {d : PyData} {Q : VK} {E : XK} (h : Wt K H x d) (q : Q (.bl (isNum d)) H) : spNum K ([x] ++ []) H Q E := ⟨x, d, rfl, h, q⟩
theorem x_row {H : Hp} {x : V} {d : PyData} {Q : VK} {E : XK} (h : Wt K H x d) (q : ∀ H', Ex H H' → Q (.bl (isRow d)) H') : spRow K ([x] ++ []) H Q E := ⟨x, d, rfl, h, q⟩
/-! ### lot_within: of ascending numbers -/
def nums (ns : List Nat) : List V := ns.map fun (n : Nat) => V.int (n : Int)
def numsD (ns : List Nat) : List PyData := ns.map fun (n : Nat) => PyData.int (n : Int)
theorem wt_nums {H : Hp} (ns : List Nat) : WtL K H (nums ns) (numsD ns) := WtL.map (f := fun (n : Nat) => V.int (n : Int)) (g := fun (n : Nat) => PyData.int (n : Int)) fun n _ => Wt.int (n : Int)
def Asc (ns : List Nat) (m : Nat) : Prop := ns.Pairwise (· < ·) ∧ ∀ n ∈ ns, n < m
/-- what a datum is as a lot of m -/
def lotL (m : Nat) : Int → List PyData → Option (List Nat)
  | _, [] => some []
  | ab, d :: r => match d with
    | .int i => if 0 ≤ i ∧ ab < i ∧ i < m then (lotL m i r).map (i.toNat :: ·) else none
    | _ => none
def lotD (d : PyData) (m : Nat) : Option (List Nat) := match d with
  | .list ds => lotL m (-1) ds
  | .tuple ds => lotL m (-1) ds
  | _ => none
def spLot (K : PySem.W.Frag) : Sp := fun vs H Q _ => ∃ v d m, vs = [v, .int ((m : Nat) : Int)] ∧ Wt K H v d ∧ (match lotD d m with
  | none => ∀ H', Ex H H' → Q .non H'
  | some ns => ∀ p H', Ex H H' → H' p = some (.tup (nums ns)) → Q (.ref p) H')
theorem lot_not {m : Nat} {ab : Int} {d : PyData} {r : List PyData} (h : isNum d = false) : lotL m ab (d :: r) = none := by
  cases d <;> first | rfl | skip
  rename_i i
  have : ¬ 0 ≤ i := by simpa [isNum] using h
  show (if _ then _ else _) = _
  rw [if_neg (fun z => this z.1)]
theorem lot_num {d : PyData} (h : isNum d = true) : ∃ n : Nat, d = .int n := by
  cases d <;> first | (simp [isNum] at h; done) | skip
  rename_i i
  have : 0 ≤ i := by simpa [isNum] using h
  exact ⟨i.toNat, by rw [Int.toNat_of_nonneg this]⟩
theorem lot_out {m n : Nat} {ab : Int} {r : List PyData} (h : ¬ (ab < n ∧ n < m)) : lotL m ab (.int n :: r) = none := by
  show (if _ then _ else _) = _
  rw [if_neg (fun z => h ⟨z.2.1, by omega⟩)]
theorem lot_in {m n : Nat} {ab : Int} {r : List PyData} (h1 : ab < n) (h2 : n < m) : lotL m ab (.int n :: r) = (lotL m n r).map (n :: ·) := by
  show (if _ then _ else _) = _
  rw [if_pos ⟨by omega, h1, by omega⟩, Int.toNat_natCast]
theorem lot_asc {m : Nat} : ∀ {ns : List Nat} {ab : Int}, (ns.Pairwise (· < ·)) → (∀ n ∈ ns, n < m ∧ ab < n) → lotL m ab (numsD ns) = some ns
  | [], _, _, _ => rfl
  | n :: ns, ab, h, hm => by
    obtain ⟨h1, h2⟩ := List.pairwise_cons.mp h
    have := hm n (List.mem_cons_self ..)
    show lotL m ab (.int n :: numsD ns) = _
    rw [lot_in this.2 this.1, lot_asc h2 fun k hk => ⟨(hm k (List.mem_cons_of_mem _ hk)).1, by have := h1 k hk; omega⟩]
    rfl
theorem lot_ok {m : Nat} {ns : List Nat} (h : Asc ns m) : lotL m (-1) (numsD ns) = some ns := lot_asc h.1 fun n hn => ⟨h.2 n hn, by omega⟩
theorem nums_snoc (ns : List Nat) (n : Nat) : nums (ns ++ [n]) = nums ns ++ [.int n] := by unfold nums; rw [List.map_append]; rfl
theorem nums_of {H : Hp} : ∀ {xs : List V} {ns : List Nat}, WtL K H xs (numsD ns) → xs = nums ns
  | _, [], .nil => rfl
  | _, n :: ns, .cons (.int _) r => by rw [nums_of r]; rfl
theorem asc_at {ns : List Nat} {m i x : Nat} (h : Asc ns m) (hx : ns[i]? = some x) : x < m ∧ ∀ j y, j < i → ns[j]? = some y → y < x := by
  obtain ⟨hi, e⟩ := List.getElem?_eq_some_iff.mp hx
  refine ⟨h.2 x (e ▸ List.getElem_mem hi), fun j y hj hy => ?_⟩
  obtain ⟨hj', e'⟩ := List.getElem?_eq_some_iff.mp hy
  have := List.pairwise_iff_getElem.mp h.1 j i hj' hi hj
  rw [e, e'] at this
  exact this
theorem nums_at {ns : List Nat} {i : Nat} {x : V} (h : (nums ns)[i]? = some x) : ∃ n : Nat, ns[i]? = some n ∧ x = .int n := by
  unfold nums at h
  rw [List.getElem?_map] at h
  cases e : ns[i]? with
  | none => rw [e] at h; cases h
  | some n => rw [e] at h; cases h; exact ⟨n, rfl, rfl⟩
abbrev s_lot_within : Stmt := top 10
abbrev nms_lot_within : List Str := ["value", "many", "above", "x"]
theorem sc_lot_within : FnScope nms_lot_within ["value", "many"] (defScope s_lot_within) := ⟨rfl, rfl, rfl, by decide +kernel, rfl, by decide +kernel, by decide +kernel⟩
theorem take_snoc {α : Type} {l : List α} {i : Nat} {x : α} (h : l[i]? = some x) : l.take (i + 1) = l.take i ++ [x] := by
  obtain ⟨hi, e⟩ := List.getElem?_eq_some_iff.mp h
  rw [List.take_succ_eq_append_getElem hi, e]
theorem ok_lot_within {f : Addr} {fd : FuncData} (F : Fun K "lot_within" "lot_within" s_lot_within f fd) (hm : mg "lot_within" = some (.ref f)) (b : Binds K fd ["value", "many"] []) (T : Bt mg)
    (c_is_number : Cal P w K mg base 1 "is_number" (spNum K)) (c_is_row : Cal P w K mg base 1 "is_row" (spRow K)) : Cal P w K mg base 2 "lot_within" (spLot K) := by
  refine cal_of F hm b sc_lot_within (fun vs H Q E h => ?_) (fun cdv A outer s H vs Q E hr h => ?_)
  · obtain ⟨v, d, m, rfl, _⟩ := h
    rfl
  · obtain ⟨v, d, m, rfl, hv, q⟩ := h
    have hu64 := pass_hu64 hr
    have oth : isRow d = false → lotD d m = none → ∃ t, PSs (cxOf (L2.CX P w) P w K mg base nms_lot_within "lot_within" (defScope s_lot_within) f cdv A outer s H E) (defBody s_lot_within) t ∧ t { nx := fun _ H' => Q .non H', rt := Q } (start nms_lot_within [v, .int ((m : Nat) : Int)]) H := fun h1 h2 => by
      refine ⟨_, (pss_cons (ps_if (pt_not (pt_val (pe_c c_is_row hr (by decide) (by rfl) (pa_cons (pv 0) pa_nil))))
    (pss_one (ps_ret pe_non))
    pss_nil)
    (pss_cons (ps_set (i := 2) sc_lot_within.nd rfl (by first | exact Or.inl rfl | exact Or.inr rfl) (pe_un un_neg pe_int))
    (pss_cons (ps_for (passes_of rfl) rfl (pi_list (pv 0)) (pg_name (i := 3) sc_lot_within.nd rfl (by first | exact Or.inl rfl | exact Or.inr rfl))
    (pss_cons (ps_if (PW.pt (pw_or (pt_not (pt_val (pe_c c_is_number hr (by decide) (by rfl) (pa_cons (pv 3) pa_nil)))) (pw_or1 (pt_not (pt_chain (oLtK K hu64) (oLtK K hu64) (pv 2) (pv 3) (pv 1))))))
    (pss_one (ps_ret pe_non))
    pss_nil)
    (pss_one (ps_set (i := 2) sc_lot_within.nd rfl (by first | exact Or.inl rfl | exact Or.inr rfl) (pv 3)))))
    (pss_one (ps_ret (pe_callTy cTuple (by rfl) T.tuple (by decide +kernel) (pa_cons (pv 0) pa_nil))))))), ?_⟩
      try dsimp only [cxOf]
      walk_at "y"
      refine x_row hv fun H1 e1 => ?_
      rw [h1]
      rw [h2] at q
      walk_at "y"
      exact q _ e1
    rcases d with _ | b | i | x | ds | ds | kv
    · exact oth rfl rfl
    · exact oth rfl rfl
    · exact oth rfl rfl
    · exact oth rfl rfl
    · cases hv with
      | @lst a xs _ ea wa =>
      refine ⟨_, (pss_cons (ps_if (pt_not (pt_val (pe_c c_is_row hr (by decide) (by rfl) (pa_cons (pv 0) pa_nil))))
    (pss_one (ps_ret pe_non))
    pss_nil)
    (pss_cons (ps_set (i := 2) sc_lot_within.nd rfl (by first | exact Or.inl rfl | exact Or.inr rfl) (pe_un un_neg pe_int))
    (pss_cons (ps_for (passes_of rfl) rfl (pi_list (pv 0)) (pg_name (i := 3) sc_lot_within.nd rfl (by first | exact Or.inl rfl | exact Or.inr rfl))
    (pss_cons (ps_if (PW.pt (pw_or (pt_not (pt_val (pe_c c_is_number hr (by decide) (by rfl) (pa_cons (pv 3) pa_nil)))) (pw_or1 (pt_not (pt_chain (oLtK K hu64) (oLtK K hu64) (pv 2) (pv 3) (pv 1))))))
    (pss_one (ps_ret pe_non))
    pss_nil)
    (pss_one (ps_set (i := 2) sc_lot_within.nd rfl (by first | exact Or.inl rfl | exact Or.inr rfl) (pv 3)))))
    (pss_one (ps_ret (pe_callTy cTuple (by rfl) T.tuple (by decide +kernel) (pa_cons (pv 0) pa_nil))))))), ?_⟩
      try dsimp only [cxOf]
      walk_at "y"
      refine x_row (Wt.lst ea wa) fun H1 e1 => ?_
      rw [show isRow (.list ds) = true from rfl]
      walk_at "y"
      have lx : xs.length = ds.length := wa.len
      refine y_forL (fun i σ H => Ex H1 H ∧ ∃ (ab : Int) (o : Option V) (pre : List Nat), σ = [some (.ref a), some (.int m), some (.int ab), o] ∧ lotL m (-1) ds = (lotL m ab (ds.drop i)).map (pre ++ ·) ∧ nums pre = xs.take i) (e1 a _ ea) ⟨Ex.refl _, -1, _, [], rfl, by simp, rfl⟩ (fun i σ H p => p.1 a _ (e1 a _ ea)) (fun i x σ H hx p => ?_) fun σ H p => ?_
      · obtain ⟨e2, ab, o, pre, rfl, hl, hpre⟩ := p
        obtain ⟨dx, hd, wx⟩ := (wa.ex (e1.trans e2)).get hx
        have hdr := List.drop_eq_getElem_cons (List.getElem?_eq_some_iff.mp hd).1
        rw [(List.getElem?_eq_some_iff.mp hd).2] at hdr
        rw [hdr] at hl
        have q0 : lotL m ab (dx :: ds.drop (i + 1)) = none → ∀ H', Ex H H' → Q .non H' := fun z H' e' => by
          rw [z] at hl
          have q := q
          rw [show lotD (.list ds) m = lotL m (-1) ds from rfl, hl] at q
          exact q H' ((e1.trans e2).trans e')
        walk_at "y"
        refine x_num wx ?_
        cases hn : isNum dx with
        | false =>
          walk_at "y"
          exact q0 (lot_not hn) _ (Ex.refl _)
        | true =>
          obtain ⟨n, rfl⟩ := lot_num hn
          cases wx
          walk_at "y"
          by_cases c1 : ab < (n : Int)
          · rw [decide_eq_true c1]
            walk_at "y"
            by_cases c2 : n < m
            · rw [decide_eq_true (show (n : Int) < m by omega)]
              walk_at "y"
              rw [lot_in c1 c2, Option.map_map] at hl
              refine ⟨e2, n, _, pre ++ [n], rfl, ?_, ?_⟩
              · rw [hl]
                congr 1
                funext z
                simp
              · rw [nums_snoc, hpre, take_snoc hx]
            · rw [decide_eq_false (show ¬ (n : Int) < m by omega)]
              walk_at "y"
              exact q0 (lot_out fun z => c2 z.2) _ (Ex.refl _)
          · rw [decide_eq_false c1]
            walk_at "y"
            exact q0 (lot_out fun z => c1 z.1) _ (Ex.refl _)
      · obtain ⟨e2, ab, o, pre, rfl, hl, hpre⟩ := p
        rw [lx, List.drop_of_length_le (Nat.le_refl _)] at hl
        rw [List.take_of_length_le (by omega)] at hpre
        have hl : lotL m (-1) ds = some pre := by rw [hl]; simp [lotL]
        subst hpre
        rw [show lotD (.list ds) m = lotL m (-1) ds from rfl, hl] at q
        walk_at "y"
        refine x_tupl (e2 a _ (e1 a _ ea)) fun p H' e3 _ hp => ?_
        exact q p H' (e1.trans (e2.trans e3)) hp
    · cases hv with
      | @tup a xs _ ea wa =>
      refine ⟨_, (pss_cons (ps_if (pt_not (pt_val (pe_c c_is_row hr (by decide) (by rfl) (pa_cons (pv 0) pa_nil))))
    (pss_one (ps_ret pe_non))
    pss_nil)
    (pss_cons (ps_set (i := 2) sc_lot_within.nd rfl (by first | exact Or.inl rfl | exact Or.inr rfl) (pe_un un_neg pe_int))
    (pss_cons (ps_for (passes_of rfl) rfl (pi_tup (pv 0)) (pg_name (i := 3) sc_lot_within.nd rfl (by first | exact Or.inl rfl | exact Or.inr rfl))
    (pss_cons (ps_if (PW.pt (pw_or (pt_not (pt_val (pe_c c_is_number hr (by decide) (by rfl) (pa_cons (pv 3) pa_nil)))) (pw_or1 (pt_not (pt_chain (oLtK K hu64) (oLtK K hu64) (pv 2) (pv 3) (pv 1))))))
    (pss_one (ps_ret pe_non))
    pss_nil)
    (pss_one (ps_set (i := 2) sc_lot_within.nd rfl (by first | exact Or.inl rfl | exact Or.inr rfl) (pv 3)))))
    (pss_one (ps_ret (pe_callTy cTuple (by rfl) T.tuple (by decide +kernel) (pa_cons (pv 0) pa_nil))))))), ?_⟩
      try dsimp only [cxOf]
      walk_at "y"
      refine x_row (Wt.tup ea wa) fun H1 e1 => ?_
      rw [show isRow (.tuple ds) = true from rfl]
      walk_at "y"
      have lx : xs.length = ds.length := wa.len
      refine y_forT (fun i σ H => Ex H1 H ∧ ∃ (ab : Int) (o : Option V) (pre : List Nat), σ = [some (.ref a), some (.int m), some (.int ab), o] ∧ lotL m (-1) ds = (lotL m ab (ds.drop i)).map (pre ++ ·) ∧ nums pre = xs.take i) (e1 a _ ea) ⟨Ex.refl _, -1, _, [], rfl, by simp, rfl⟩ (fun i σ H p => p.1 a _ (e1 a _ ea)) (fun i x σ H hx p => ?_) fun σ H p => ?_
      · obtain ⟨e2, ab, o, pre, rfl, hl, hpre⟩ := p
        obtain ⟨dx, hd, wx⟩ := (wa.ex (e1.trans e2)).get hx
        have hdr := List.drop_eq_getElem_cons (List.getElem?_eq_some_iff.mp hd).1
        rw [(List.getElem?_eq_some_iff.mp hd).2] at hdr
        rw [hdr] at hl
        have q0 : lotL m ab (dx :: ds.drop (i + 1)) = none → ∀ H', Ex H H' → Q .non H' := fun z H' e' => by
          rw [z] at hl
          have q := q
          rw [show lotD (.tuple ds) m = lotL m (-1) ds from rfl, hl] at q
          exact q H' ((e1.trans e2).trans e')
        walk_at "y"
        refine x_num wx ?_
        cases hn : isNum dx with
        | false =>
          walk_at "y"
          exact q0 (lot_not hn) _ (Ex.refl _)
        | true =>
          obtain ⟨n, rfl⟩ := lot_num hn
          cases wx
          walk_at "y"
          by_cases c1 : ab < (n : Int)
          · rw [decide_eq_true c1]
            walk_at "y"
            by_cases c2 : n < m
            · rw [decide_eq_true (show (n : Int) < m by omega)]
              walk_at "y"
              rw [lot_in c1 c2, Option.map_map] at hl
              refine ⟨e2, n, _, pre ++ [n], rfl, ?_, ?_⟩
              · rw [hl]
                congr 1
                funext z
                simp
              · rw [nums_snoc, hpre, take_snoc hx]
            · rw [decide_eq_false (show ¬ (n : Int) < m by omega)]
              walk_at "y"
              exact q0 (lot_out fun z => c2 z.2) _ (Ex.refl _)
          · rw [decide_eq_false c1]
            walk_at "y"
            exact q0 (lot_out fun z => c1 z.1) _ (Ex.refl _)
      · obtain ⟨e2, ab, o, pre, rfl, hl, hpre⟩ := p
        rw [lx, List.drop_of_length_le (Nat.le_refl _)] at hl
        rw [List.take_of_length_le (by omega)] at hpre
        have hl : lotL m (-1) ds = some pre := by rw [hl]; simp [lotL]
        subst hpre
        rw [show lotD (.tuple ds) m = lotL m (-1) ds from rfl, hl] at q
        walk_at "y"
        refine x_tupt (e2 a _ (e1 a _ ea)) ?_
        exact q a _ (e1.trans e2) (e2 a _ (e1 a _ ea))
    · exact oth rfl rfl
end
end Y
/-! part A9 -/
/-! More short rules: slices, whiles, lists that grow, tables on a heap. -/
namespace Y
open PySem L2
section
variable {K : PySem.W.Frag} {σ : L2.St} {H : Hp} {Q : VK} {D : Ends}
/-! ### slices -/
def cutD (ds : List PyData) (lo hi : Option Int) : List PyData := (ds.drop (HT.sIx ds.length 0 lo)).take (HT.sIx ds.length ds.length hi - HT.sIx ds.length 0 lo)
theorem WtL.cut {vs : List V} {ds : List PyData} (h : WtL K H vs ds) (lo hi : Option Int) : WtL K H (cutV vs lo hi) (cutD ds lo hi) := by
  unfold cutV cutD
  rw [h.len]
  exact (h.drop _).take _
theorem x_slt {x : V} {ds : List PyData} {lo hi : Option Int} (h : Wt K H x (.tuple ds)) (q : ∀ v H', Ex H H' → Wt K H' v (.tuple (cutD ds lo hi)) → Q v H') : rSlU K x lo hi H Q := by
  cases h with
  | @tup a xs _ ea wa =>
  refine .inr ⟨a, xs, rfl, SqT.of ea, fun hw => ?_, fun _ p hp => q _ _ (Ex.new hp) (.tup upd_same ((wa.cut lo hi).ex (Ex.new hp)))⟩
  refine q _ H (Ex.refl H) (.tup ea ?_)
  have e : cutD ds lo hi = ds := by
    unfold cutD
    rw [wa.len] at hw
    rw [hw.1, hw.2, List.drop_zero, Nat.sub_zero, List.take_length]
  rw [e]
  exact wa
theorem cut_to (ds : List PyData) (n : Nat) : cutD ds none (some (n : Int)) = ds.take n := by
  unfold cutD
  rw [HT.sIx_none, HT.sIx_nat, List.drop_zero, Nat.sub_zero, List.take_eq_take_iff]
  omega
theorem cut_from (ds : List PyData) (n : Nat) : cutD ds (some (n : Int)) none = ds.drop n := by
  unfold cutD
  rw [HT.sIx_none, HT.sIx_nat]
  by_cases h : n ≤ ds.length
  · rw [Nat.min_eq_left h, List.take_of_length_le (by rw [List.length_drop]; exact Nat.le_refl _)]
  · rw [Nat.min_eq_right (by omega), List.drop_of_length_le (Nat.le_refl _), List.drop_of_length_le (by omega), List.take_nil]
theorem x_sll {l : Addr} {xs : List V} {lo hi : Option Int} (h : H l = some (.lst xs)) (q : ∀ p H', Ex H H' → H p = none → H' p = some (.lst (cutV xs lo hi)) → Q (.ref p) H') : rSlU K (.ref l) lo hi H Q :=
  .inl ⟨l, xs, rfl, SqL.of h, fun p hp => q p _ (Ex.new hp) hp upd_same⟩
theorem x_yes {Q : Bool → Hp → Prop} (q : Q true H) : tYes σ H Q := q
/-! ### a while -/
theorem y_while {c : TT} {tb : TS} (Pv : Nat → L2.St → Hp → Prop) (m : Nat) (h0 : Pv m σ H)
    (hs : ∀ m σ H, Pv m σ H → c σ H fun b H1 => if b = true then ∃ N : L2.St → Hp → Prop, (∀ σ' H', N σ' H' → ∃ m', m' < m ∧ Pv m' σ' H') ∧ tb { D with nx := N, ct := N, bk := D.nx } σ H1 else D.nx σ H1) : tWhile c tb D σ H :=
  ⟨Pv, ⟨m, h0⟩, hs⟩
/-! ### lists that change -/
theorem x_tyl {l : Addr} {xs : List V} (h : H l = some (.lst xs)) : tyV K "list" (.ref l) H := .inl ⟨rfl, xs, SqL.of h⟩
theorem x_append {l : Addr} {xs : List V} {y : V} (h : H l = some (.lst xs)) (hl : xs.length < 100000) (q : ∀ H', Go [l] H H' → H' l = some (.lst (xs ++ [y])) → Q .non H') : rAppend (.ref l) [y] H Q :=
  ⟨l, xs, y, rfl, rfl, h, Nat.lt_of_lt_of_le hl (by decide), q _ (Go.set h (by intro _ z; cases z)) upd_same⟩
theorem x_extend {l b : Addr} {xs zs : List V} (h : H l = some (.lst xs)) (hb : H b = some (.lst zs)) (hl : xs.length + zs.length ≤ 100000) (q : ∀ H', Go [l] H H' → H' l = some (.lst (xs ++ zs)) → Q .non H') : rExtend (.ref l) [.ref b] H Q :=
  ⟨l, b, xs, zs, rfl, rfl, h, hb, Nat.le_trans hl (by decide), q _ (Go.set h (by intro _ z; cases z)) upd_same⟩
theorem x_pop {l : Addr} {xs : List V} {y : V} (h : H l = some (.lst (xs ++ [y]))) (q : ∀ H', Go [l] H H' → H' l = some (.lst xs) → Q y H') : rPop (.ref l) [] H Q :=
  ⟨l, xs ++ [y], y, rfl, rfl, h, by simp, q _ (Go.set h (by intro _ z; cases z)) (by rw [upd_same, List.dropLast_concat])⟩
theorem x_setl {p : Addr} {xs : List V} {i : Int} {n : Nat} {v : V} {q : Hp → Prop} (h : H p = some (.lst xs)) (hi : i = (n : Int)) (hn : n < xs.length) (k : ∀ H', Go [p] H H' → H' p = some (.lst (xs.set n v)) → q H') : rSetL (.ref p) (.int i) v H q :=
  ⟨p, xs, i, n, rfl, rfl, h, by subst hi; unfold ixN; rw [if_pos (by omega), if_pos (by omega)]; simp, k _ (Go.set h (by intro _ z; cases z)) upd_same⟩
theorem x_gsub {to ti : TE} {t : TSet} {v : V} {q : L2.St → Hp → Prop} (h : to σ H fun o H1 => ti σ H1 fun i H2 => t o i v H2 fun H3 => q σ H3) : gSub to ti t v σ H q := h
theorem x_gtup2 {i j : Nat} {a : Addr} {x y : V} {q : L2.St → Hp → Prop} (h : H a = some (.tup [x, y])) (k : q ((σ.set i (some x)).set j (some y)) H) : gTup K 2 (gCons (gName i) (gCons (gName j) gNil)) (.ref a) σ H q :=
  ⟨a, _, rfl, SqT.of h, rfl, x, [y], rfl, y, [], rfl, rfl, k⟩
theorem x_gtup {n : Nat} {t : TGs} {a : Addr} {xs : List V} {q : L2.St → Hp → Prop} (h : H a = some (.tup xs)) (e : xs.length = n) (k : t xs σ H q) : gTup K n t (.ref a) σ H q := ⟨a, xs, rfl, SqT.of h, e, k⟩
theorem x_gcons {t : TG} {u : TGs} {v : V} {r : List V} {q : L2.St → Hp → Prop} (k : t v σ H fun σ' H' => u r σ' H' q) : gCons t u (v :: r) σ H q := ⟨v, r, rfl, k⟩
theorem x_gnil {q : L2.St → Hp → Prop} (k : q σ H) : gNil [] σ H q := ⟨rfl, k⟩
theorem x_gattr {to : TE} {f : Str} {v : V} {q : L2.St → Hp → Prop} (k : to σ H fun x H2 => kSfld K f x v H2 (q σ)) : gAttr K to f v σ H q := k
theorem x_aug {i : Nat} {te : TE} {ti : TIp} {x : V} (h : σ[i]? = some (some x)) (q : te σ H fun y H1 => ti x y H1 fun z H2 => D.nx (σ.set i (some z)) H2) : tAug i te ti D σ H := ⟨x, h, q⟩
theorem x_ipi {f : Int → Int → Int} {i j : Int} (q : Q (.int (f i j)) H) : ipI f (.int i) (.int j) H Q := ⟨i, j, rfl, rfl, q⟩
def kFin (C a : Addr) (f : Str) (z : V) (H3 : Hp) (q : Hp → Prop) : Prop := ∃ dx' fs', H3 a = some (.ins C dx' fs') ∧ fs'.length < 1000 ∧ q (upd H3 a (.ins C dx' (putF f z fs')))
def kFldAug (K : PySem.W.Frag) (tv : TE) (rd : V → V → Hp → VK → Prop) (f : Str) (D : Ends) (σ : L2.St) (x : V) (H1 : Hp) : Prop := ∃ a C dx fs v, x = .ref a ∧ H1 a = some (.ins C dx fs) ∧ Cls K C ∧ NoAttr K C f ∧ fs.lookup f = some v ∧
  tv σ H1 fun y H2 => rd v y H2 fun z H3 => kFin C a f z H3 (D.nx σ)
theorem x_fldaug {ta tv : TE} {rd : V → V → Hp → VK → Prop} {f : Str} (q : ta σ H fun x H1 => kFldAug K tv rd f D σ x H1) : sFldAug K ta tv rd f D σ H := q
theorem x_kfldaug {tv : TE} {rd : V → V → Hp → VK → Prop} {f : Str} {a C dx : Addr} {fs : List (Str × V)} {v : V} (h : H a = some (.ins C dx fs)) (c : Cls K C) (n : NoAttr K C f) (l : fs.lookup f = some v) (q : tv σ H fun y H2 => rd v y H2 fun z H3 => kFin C a f z H3 (D.nx σ)) : kFldAug K tv rd f D σ (.ref a) H :=
  ⟨a, C, dx, fs, v, rfl, h, c, n, l, q⟩
theorem x_kfin {C a dx : Addr} {f : Str} {z : V} {fs gs : List (Str × V)} {q : Hp → Prop} (h : H a = some (.ins C dx fs)) (l : fs.length < 1000) (e : putF f z fs = gs) (k : ∀ H', Go [a] H H' → H' a = some (.ins C dx gs) → q H') : kFin C a f z H q :=
  ⟨dx, fs, h, l, k _ (Go.set h (by intro xs z; cases z)) (by rw [upd_same, e])⟩
theorem x_radd {i j : Int} (q : Q (.int (i + j)) H) : rAdd (.int i) (.int j) H Q := ⟨i, j, rfl, rfl, q⟩
theorem x_max {l : Addr} {ns : List Int} (h : H l = some (.lst (ns.map V.int))) (hn : 0 < ns.length) (q : ∀ m, m ∈ ns → (∀ y, y ∈ ns → y ≤ m) → Q (.int m) H) : rMax K [.ref l] H Q := ⟨l, ns, rfl, SqL.of h, hn, q⟩
/-! ### tables on a heap -/
inductive KvL (K : PySem.W.Frag) (H : Hp) : List (KeyT × V) → Page → Prop
  | nil : KvL K H [] []
  | cons {k : KeyT} {v : V} {d : PyData} {r : List (KeyT × V)} {t : Page} : Wt K H v d → KvL K H r t → KvL K H ((k, v) :: r) ((k, d) :: t)
theorem KvL.keys : ∀ {kvs : List (KeyT × V)} {t : Page}, KvL K H kvs t → kvs.map (·.1) = t.map (·.1)
  | _, _, .nil => rfl
  | _, _, .cons _ r => by rw [List.map_cons, List.map_cons, KvL.keys r]
theorem KvL.len {kvs : List (KeyT × V)} {t : Page} (h : KvL K H kvs t) : kvs.length = t.length := by
  have := congrArg List.length h.keys
  simpa using this
theorem KvL.any {k : KeyT} : ∀ {kvs : List (KeyT × V)} {t : Page}, KvL K H kvs t → (kvs.any fun kv => decide (kv.1 = k)) = t.any fun kv => decide (kv.1 = k)
  | _, _, .nil => rfl
  | _, _, .cons _ r => by rw [List.any_cons, List.any_cons, KvL.any r]
theorem KvL.snoc {k : KeyT} {v : V} {d : PyData} (hv : Wt K H v d) : ∀ {kvs : List (KeyT × V)} {t : Page}, KvL K H kvs t → KvL K H (kvs ++ [(k, v)]) (t ++ [(k, d)])
  | _, _, .nil => .cons hv .nil
  | _, _, .cons h r => .cons h (KvL.snoc hv r)
theorem KvL.upd {k : KeyT} {v : V} {d : PyData} (hv : Wt K H v d) : ∀ {kvs : List (KeyT × V)} {t : Page}, KvL K H kvs t → KvL K H (kvs.map fun kv => if kv.1 = k then (kv.1, v) else kv) (t.map fun kv => if kv.1 = k then (kv.1, d) else kv)
  | _, _, .nil => .nil
  | _, _, @KvL.cons _ _ k' _ _ _ _ h r => by
    rw [List.map_cons, List.map_cons]
    by_cases e : k' = k
    · rw [if_pos e, if_pos e]; exact .cons hv (KvL.upd hv r)
    · rw [if_neg e, if_neg e]; exact .cons h (KvL.upd hv r)
theorem KvL.put {k : KeyT} {v : V} {d : PyData} (hv : Wt K H v d) {kvs : List (KeyT × V)} {t : Page} (h : KvL K H kvs t) : KvL K H (putK kvs k v) (putP t k d) := by
  unfold putK putP
  rw [h.any]
  split
  · exact h.upd hv
  · exact h.snoc hv
theorem KvL.val {k : KeyT} : ∀ {kvs : List (KeyT × V)} {t : Page}, KvL K H kvs t → k ∈ t.map (·.1) → ∃ v, valV kvs k = some v ∧ Wt K H v (valP t k)
  | _, _, .nil, m => by simp at m
  | _, _, @KvL.cons _ _ k' v d r t h q, m => by
    by_cases e : k' = k
    · refine ⟨v, valV_pos e, ?_⟩
      unfold valP
      rw [List.find?_cons, decide_eq_true e]
      exact h
    · obtain ⟨u, e1, e2⟩ := KvL.val (k := k) q (by
        rw [List.map_cons] at m
        rcases List.mem_cons.mp m with z | z
        · exact absurd z.symm e
        · exact z)
      refine ⟨u, by rw [valV_neg e]; exact e1, ?_⟩
      unfold valP at e2 ⊢
      rw [List.find?_cons, decide_eq_false e]
      exact e2
theorem KvL.go {S : List Addr} {H' : Hp} (g : Go S H H') : ∀ {kvs : List (KeyT × V)} {t : Page}, (∀ kv ∈ t, valOk kv.2 = true) → KvL K H kvs t → KvL K H' kvs t
  | _, _, _, .nil => .nil
  | _, _, a, .cons h r => .cons (h.go g (val_of (a _ (List.mem_cons_self ..))).to) (KvL.go g (fun kv m => a kv (List.mem_cons_of_mem _ m)) r)
/-- the dict at D holds the table t -/
def TabAt (K : PySem.W.Frag) (D : Addr) (t : Page) (H : Hp) : Prop := ∃ kvs, H D = some (.dT kvs) ∧ KvL K H kvs t
theorem kD_kV : ∀ {k : KeyT} {vs : List V}, WtL K H vs (k.map kD) → vs = k.map kV
  | [], _, .nil => rfl
  | .inl i :: k, _, .cons (.int _) r => by rw [kD_kV r]; rfl
  | .inr i :: k, _, .cons (.str _) r => by rw [kD_kV r]; rfl
theorem wt_kV : ∀ (k : KeyT), WtL K H (k.map kV) (k.map kD)
  | [] => .nil
  | .inl i :: k => .cons (.int i) (wt_kV k)
  | .inr i :: k => .cons (.str i) (wt_kV k)
theorem key_at {x : V} {k : KeyT} (h : Wt K H x (tkD k)) : ∃ b, x = .ref b ∧ H b = some (.tup (k.map kV)) := by
  unfold tkD at h
  cases h with
  | @tup a xs _ ea wa => exact ⟨a, rfl, by rw [← kD_kV wa]; exact ea⟩
theorem at_key {b : Addr} {k : KeyT} (h : H b = some (.tup (k.map kV))) : Wt K H (.ref b) (tkD k) := .tup h (wt_kV k)
/-- d[k] -/
theorem x_kdgetT {D : Addr} {t : Page} {x : V} {k : KeyT} (h : TabAt K D t H) (hx : Wt K H x (tkD k)) (m : k ∈ t.map (·.1)) (q : ∀ v, Wt K H v (valP t k) → Q v H) : kDget (.ref D) x H Q := by
  obtain ⟨kvs, hD, kv⟩ := h
  obtain ⟨b, rfl, hb⟩ := key_at hx
  obtain ⟨v, e1, e2⟩ := kv.val m
  exact ⟨D, v, rfl, e1 ▸ DGet.t hD hb, q v e2⟩
/-- d[k] = v -/
theorem x_kdputT {D : Addr} {t : Page} {x v : V} {k : KeyT} {d : PyData} {q : Hp → Prop} (h : TabAt K D t H) (ht : TabOk t) (hx : Wt K H x (tkD k)) (hk : k ∈ uni) (hv : Wt K H v d) (ho : valOk d = true) (c : ∀ H', Go [D] H H' → TabAt K D (putP t k d) H' → q H') : kDput (.ref D) x v H q := by
  obtain ⟨kvs, hD, kv⟩ := h
  obtain ⟨b, rfl, hb⟩ := key_at hx
  have hl := ht.len
  have g : Go [D] H (L2.upd H D (.dT (putK kvs k v))) := Go.set hD (by intro xs z; cases z)
  refine ⟨D, _, rfl, DPut.t hD hb ?_, c _ g ⟨_, upd_same, (kv.put hv).go g (ht.put hk ho).vs⟩⟩
  rw [kv.len]
  exact Nat.lt_of_le_of_lt hl (by decide)
theorem wt_refs {H' : Hp} (e : Ex H H') : ∀ {bs : List Addr} {ks : List KeyT}, Paired (fun b k => H b = some (.tup (k.map kV))) bs ks → WtL K H' (bs.map V.ref) (ks.map tkD)
  | _, _, .nil => .nil
  | _, _, .cons h r => .cons (at_key (e _ _ h)) (wt_refs e r)
/-- sorted(d) -/
theorem x_sorted {D : Addr} {t : Page} (h : TabAt K D t H) (ht : TabOk t) (q : ∀ p vs H', Ex H H' → H p = none → H' p = some (.lst vs) → WtL K H' vs ((sortKs (t.map (·.1))).map tkD) → Q (.ref p) H') : rSortK [.ref D] H Q := by
  obtain ⟨kvs, hD, kv⟩ := h
  refine ⟨D, kvs, rfl, hD, fun k hk => ?_, fun k hk l hl => ?_, fun p bs hp hb => ?_⟩
  · rw [kv.keys] at hk
    obtain ⟨x, hx, rfl⟩ := List.mem_map.mp hk
    exact key_ne (ht.ks x hx)
  · rw [kv.keys] at hk hl
    obtain ⟨x, hx, rfl⟩ := List.mem_map.mp hk
    obtain ⟨y, hy, rfl⟩ := List.mem_map.mp hl
    exact alike_of (ht.ks x hx) (ht.ks y hy)
  · rw [kv.keys] at hb
    exact q p _ _ (Ex.new hp) hp upd_same (wt_refs (Ex.new hp) hb)
end
end Y
/-! part E0 -/
/-! Errors of the program's own. -/
namespace Y
open PySem L2
structure Ers (P : Program) (K : PySem.W.Frag) (mg : Str → Option Value) where
  cD : Addr
  cP : Addr
  cN : Addr
  cS : Addr
  cL : Addr
  fD : Addr
  eD : Addr
  aD : Addr
  fP : Addr
  eP : Addr
  aP : Addr
  fN : Addr
  eN : Addr
  aN : Addr
  fS : Addr
  eS : Addr
  aS : Addr
  fL : Addr
  eL : Addr
  aL : Addr
  InvalidDisk : PySem.ErX.ErrTxt P K mg "InvalidDisk" cD fD eD aD
  InvalidPage : PySem.ErX.ErrTxt P K mg "InvalidPage" cP fP eP aP
  InvalidNumber : PySem.ErX.ErrTxt P K mg "InvalidNumber" cN fN eN aN
  InvalidSlot : PySem.ErX.ErrTxt P K mg "InvalidSlot" cS fS eS aS
  InvalidLot : PySem.ErX.ErrTxt P K mg "InvalidLot" cL fL eL aL
section
variable {P : Program} {w : World} {K : PySem.W.Frag} {mg : Str → Option Value} {base : Heap}
/-- a raised error: its class, its number -/
def Errs (E : XK) (C : Addr) (n : Int) (H : Hp) : Prop := ∀ e H', Ex H H' → H' e = some (.xd [(("at" : Str), .int n)]) → E (.ref C) (some e) H'
def kErr (C : Addr) (W : WX) (σ : L2.St) (vs : List V) (H1 : Hp) : Prop := ∃ v, vs = [v] ∧ ∀ d, H1 d = none → W (.ref C) (some d) σ (upd H1 d (.xd [(("at" : Str), v)]))
theorem x_raise {C : Addr} {W : WX} {ta : TA} {D : Ends} {σ : L2.St} {H : Hp} (q : ta σ H fun vs H1 => kErr C W σ vs H1) : tRaiseErr C W ta D σ H := q
theorem x_kerr {C : Addr} {W : WX} {σ : L2.St} {v : V} {H : Hp} (q : ∀ e H', Ex H H' → H' e = some (.xd [(("at" : Str), v)]) → W (.ref C) (some e) σ H') : kErr C W σ [v] H := ⟨v, rfl, fun d hd => q d _ (Ex.new hd) upd_same⟩
theorem Errs.ex {E : XK} {C : Addr} {n : Int} {H H' : Hp} (h : Errs E C n H) (e : Ex H H') : Errs E C n H' := fun x H2 e2 h2 => h x H2 (e.trans e2) h2
end
end Y
/-! part B1 -/
/-! The disk. -/
namespace Y
open PySem L2
local macro_rules | `(tactic| walk_at "y1") => `(tactic| (first
  | (with_reducible refine x_seq ?_) | (with_reducible refine x_asg ?_) | (with_reducible refine x_name ?_) | (with_reducible refine x_drop ?_) | (with_reducible refine x_ret ?_) | (with_reducible refine x_retN ?_)
  | (with_reducible refine x_next ?_) | (with_reducible refine x_brk ?_) | (with_reducible refine x_ifS ?_)
  | (with_reducible refine x_c ?_) | (with_reducible refine x_op ?_) | (with_reducible refine x_un ?_) | (with_reducible refine x_cb ?_) | (with_reducible refine x_cons ?_) | (with_reducible refine x_nil ?_)
  | (with_reducible refine x_call ?_) | (with_reducible refine x_tup ?_) | (with_reducible refine x_lst ?_) | (with_reducible refine x_sl ?_) | (with_reducible refine x_nopart ?_) | (with_reducible refine x_part ?_)
  | (with_reducible refine x_andV ?_) | (with_reducible refine x_orV ?_) | (with_reducible refine x_notV ?_) | (with_reducible refine x_if ?_) | (with_reducible refine x_test ?_) | (with_reducible refine x_tb ?_)
  | (with_reducible refine x_and ?_) | (with_reducible refine x_or ?_) | (with_reducible refine x_not ?_) | (with_reducible refine x_chain ?_) | (with_reducible refine x_exbl ?_) | (with_reducible refine x_exint ?_)
  | (with_reducible refine x_fld ?_) | (with_reducible refine x_sfld ?_) | (with_reducible refine x_par ?_) | (with_reducible refine x_par3 ?_) | (with_reducible refine x_dget ?_) | (with_reducible refine x_dput ?_)
  | (with_reducible refine x_bm ?_) | (with_reducible refine x_bm0 ?_) | (with_reducible refine x_pair ?_) | (with_reducible refine x_tri ?_) | (with_reducible refine x_int ?_) | (with_reducible refine x_intb ?_) | (with_reducible refine x_abs ?_) | (with_reducible refine x_isN ?_) | (with_reducible refine x_notN ?_) | (with_reducible refine x_meth ?_) | (with_reducible refine x_make ?_)
  | (with_reducible refine x_ite1 ?_) | (with_reducible refine x_ite0 ?_)
  | (with_reducible refine x_addi ?_) | (with_reducible refine x_neg ?_) | (with_reducible refine x_i0 ?_) | (with_reducible refine x_eqi ?_) | (with_reducible refine x_eqs ?_) | (with_reducible refine x_eqb ?_) | (with_reducible refine x_nei ?_) | (with_reducible refine x_lti ?_)
  | (with_reducible refine x_forL ?_) | (with_reducible refine x_forT ?_) | (with_reducible refine x_forR ?_) | (with_reducible refine x_forR2 ?_) | (with_reducible refine x_lcL ?_) | (with_reducible refine x_lcT ?_) | (with_reducible refine x_lcR ?_)
  | (with_reducible refine x_yes ?_) | (with_reducible refine x_pcons ?_) | (with_reducible refine x_pnil ?_) | (with_reducible refine x_gcons ?_) | (with_reducible refine x_gnil ?_) | (with_reducible refine x_gattr ?_) | (with_reducible refine x_raise ?_) | (with_reducible refine x_gsub ?_) | (with_reducible refine x_fldaug ?_) | (with_reducible refine x_radd ?_) | (with_reducible refine x_ipi ?_) | ((with_reducible refine x_aug (x := ?vv) ?hh ?qq); (case hh => exact rfl))
  | ((with_reducible refine x_iteA ?hc ?q); (case hc => exact rfl)) | ((with_reducible refine x_iteB ?hc ?q); (case hc => exact rfl))
  | ((with_reducible refine x_var (v := ?vv) ?hh ?qq); (case hh => exact rfl))
  | ((with_reducible refine r_isInt (d := ?dd) ?hh ?qq); (case hh => assumption)) | ((with_reducible refine r_isBool (d := ?dd) ?hh ?qq); (case hh => assumption)) | ((with_reducible refine r_isTup (d := ?dd) ?hh ?qq); (case hh => assumption))
  | ((with_reducible refine r_isStr (d := ?dd) ?hh ?qq); (case hh => assumption)) | ((with_reducible refine r_isLst (d := ?dd) ?hh ?qq); (case hh => assumption))))
local macro_rules | `(tactic| walk_at "y") => `(tactic| (repeat (walk_at "y1")))
section
variable {X : Cx}
/-- a statement that no run reaches -/
def tNo : TS := fun _ _ _ => False
theorem ps_no {s : Stmt} : PS X s tNo := ⟨fun _ _ _ _ _ _ h => h.elim⟩
end
section
variable {P : Program} {w : World} {K : PySem.W.Frag} {mg : Str → Option Value} {base : Heap}
def SizeOk (m : Nat) : Prop := 4 ≤ m ∧ m ≤ 64 ∧ m / 2 * 2 = m
def isSizeD : PyData → Bool
  | .int n => isSize n
  | _ => false
theorem sizeOk_is {m : Nat} (h : SizeOk m) : isSize (m : Int) = true := by
  obtain ⟨h1, h2, h3⟩ := h
  unfold isSize
  rw [decide_eq_true (show (0 : Int) ≤ m by omega), decide_eq_true (show (4 : Int) ≤ m by omega), decide_eq_true (show (m : Int) ≤ 64 by omega), decide_eq_true (show (m : Int) / 2 * 2 = m by omega)]
  rfl
def spSize (K : PySem.W.Frag) : Sp := fun vs H Q _ => ∃ v d, vs = [v] ∧ Wt K H v d ∧ Q (.bl (isSizeD d)) H
theorem fdiv2 (m : Nat) : Int.fdiv (m : Int) 2 = ((m / 2 : Nat) : Int) := by
  rw [Int.fdiv_eq_ediv_of_nonneg _ (by decide)]
  omega
theorem cdiv2 (i : Int) : CDivN i 2 := ⟨by decide, by decide⟩
theorem cmulR (i : Int) {j : Int} (h : -(2 ^ 64) < j ∧ j < 2 ^ 64) : CMul i j := .inr h
abbrev s_is_size : Stmt := top 14
abbrev nms_is_size : List Str := ["value"]
theorem sc_is_size : FnScope nms_is_size ["value"] (defScope s_is_size) := ⟨rfl, rfl, rfl, by decide +kernel, rfl, by decide +kernel, by decide +kernel⟩
theorem ok_is_size {f : Addr} {fd : FuncData} (F : Fun K "is_size" "is_size" s_is_size f fd) (hm : mg "is_size" = some (.ref f)) (b : Binds K fd ["value"] []) (T : Bt mg) (c_is_number : Cal P w K mg base 1 "is_number" (spNum K)) : Cal P w K mg base 2 "is_size" (spSize K) := by
  refine cal_of F hm b sc_is_size (fun vs H Q E h => ?_) (fun cdv A outer s H vs Q E hr h => ?_)
  · obtain ⟨v, d, rfl, _⟩ := h
    rfl
  · obtain ⟨v, d, rfl, hv, q⟩ := h
    have hu64 := pass_hu64 hr
    obtain ⟨t1, hg1⟩ := T.gLEAST_SLOTS
    obtain ⟨t2, hg2⟩ := T.gMOST_SLOTS
    have g_LEAST_SLOTS : ∃ u, mg "LEAST_SLOTS" = some u ∧ RelV (.int 4) u := ⟨_, hg1, ⟨_, rfl⟩⟩
    have g_MOST_SLOTS : ∃ u, mg "MOST_SLOTS" = some u ∧ RelV (.int 64) u := ⟨_, hg2, ⟨_, rfl⟩⟩
    refine ⟨_, (pss_one (ps_ret (pe_and (pe_c c_is_number hr (by decide) (by rfl) (pa_cons (pv 0) pa_nil)) (pe_and (pe_chain op_le op_le (pe_gc (by rfl) g_LEAST_SLOTS) (pv 0) (pe_gc (by rfl) g_MOST_SLOTS)) (pe_one (pe_cmpR (oEqK K hu64) (pe_op oMul (pe_op op_fdivN (pv 0) pe_int) pe_int) (pv 0) (nomark _))))))), ?_⟩
    try dsimp only [cxOf]
    walk_at "y"
    refine x_num hv ?_
    cases hn : isNum d with
    | false =>
      walk_at "y"
      have e : isSizeD d = false := by
        cases d <;> first | rfl | skip
        rename_i i
        have : ¬ 0 ≤ i := by simpa [isNum] using hn
        show isSize i = false
        unfold isSize
        rw [decide_eq_false this]
        rfl
      rw [e] at q
      exact q
    | true =>
      obtain ⟨m, rfl⟩ := lot_num hn
      cases hv
      have q : Q (.bl (isSize m)) H := q
      unfold isSize at q
      rw [decide_eq_true (show (0 : Int) ≤ m by omega), Bool.true_and] at q
      walk_at "y"
      by_cases c1 : (4 : Int) ≤ m
      · rw [decide_eq_true c1] at q ⊢
        walk_at "y"
        by_cases c2 : (m : Int) ≤ 64
        · rw [decide_eq_true c2] at q ⊢
          walk_at "y"
          refine x_iC (cdiv2 _) ?_
          refine x_muli (cmulR _ (by decide)) ?_
          walk_at "y"
          rw [Int.fdiv_eq_ediv_of_nonneg _ (by decide)]
          exact q
        · rw [decide_eq_false c2] at q ⊢
          walk_at "y"
          exact q
      · rw [decide_eq_false c1] at q ⊢
        walk_at "y"
        exact q
/-! ### a disk on the heap -/
structure DiskC (K : PySem.W.Frag) (C : Addr) : Prop where
  ins : InsO K C
  a_slots : NoAttr K C "slots"
  a_safe : NoAttr K C "_safe"
  a_puts : NoAttr K C "puts"
def putD (p : Nat × PyData) : PyData := .tuple [.int (p.1 : Int), p.2]
def DiskAt (K : PySem.W.Frag) (C a : Addr) (sl sf : List PyData) (pu : List (Nat × PyData)) (H : Hp) : Prop :=
  ∃ dx v1 v2 v3, H a = some (.ins C dx [("slots", v1), ("_safe", v2), ("puts", v3)]) ∧ Wt K H v1 (.tuple sl) ∧ Wt K H v2 (.tuple sf) ∧ Wt K H v3 (.tuple (pu.map putD))
/-- what stands on a disk stands for good -/
structure DOk (sl sf : List PyData) (pu : List (Nat × PyData)) : Prop where
  hsl : ∀ d ∈ sl, tupOnly d = true
  hsf : ∀ d ∈ sf, tupOnly d = true
  hpu : ∀ p ∈ pu, tupOnly p.2 = true ∧ p.1 < sf.length
theorem putD_to {p : Nat × PyData} (h : tupOnly p.2 = true) : tupOnly (putD p) = true := by
  show (true && (tupOnly p.2 && true)) = true
  rw [h]
  rfl
theorem tup_to {ds : List PyData} (h : ∀ d ∈ ds, tupOnly d = true) : tupOnly (.tuple ds) = true := tupOnlyL_iff.mpr h
theorem DOk.tp {sl sf : List PyData} {pu : List (Nat × PyData)} (h : DOk sl sf pu) : tupOnly (.tuple (pu.map putD)) = true := tup_to fun d hd => by
  obtain ⟨p, hp, rfl⟩ := List.mem_map.mp hd
  exact putD_to (h.hpu p hp).1
theorem DiskAt.go {S : List Addr} {C a : Addr} {sl sf : List PyData} {pu : List (Nat × PyData)} {H H' : Hp} (h : DiskAt K C a sl sf pu H) (o : DOk sl sf pu) (g : Go S H H') (n : a ∉ S) : DiskAt K C a sl sf pu H' := by
  obtain ⟨dx, v1, v2, v3, e, w1, w2, w3⟩ := h
  exact ⟨dx, v1, v2, v3, g.keep a _ n e, w1.go g (tup_to o.hsl), w2.go g (tup_to o.hsf), w3.go g o.tp⟩
/-! ### making it -/
def spDiskInit (P : Program) (K : PySem.W.Frag) (mg : Str → Option Value) (ER : Ers P K mg) (C : Addr) : Sp := fun vs H Q E => ∃ a dx v d, vs = [.ref a, v] ∧ H a = some (.ins C dx []) ∧ Wt K H v d ∧ ((isSizeD d = false ∧ Errs E ER.cN (-1) H) ∨ ∃ m : Nat, d = .int m ∧ SizeOk m ∧
  ∀ H', Go [a] H H' → DiskAt K C a (List.replicate m (.tuple [])) (List.replicate m (.tuple [])) [] H' → Q .non H')
theorem flat_rep {α : Type} (x : α) : ∀ n : Nat, (List.replicate n [x]).flatten = List.replicate n x
  | 0 => rfl
  | n + 1 => by rw [List.replicate_succ, List.flatten_cons, flat_rep x n]; rfl
abbrev s_Disk___init__ : Stmt := inClass (top 15) 0
abbrev nms_Disk___init__ : List Str := ["self", "many"]
theorem sc_Disk___init__ : FnScope nms_Disk___init__ ["self", "many"] (defScope s_Disk___init__) := ⟨rfl, rfl, rfl, by decide +kernel, rfl, by decide +kernel, by decide +kernel⟩
theorem mk_Disk {f C : Addr} {fd : FuncData} (ER : Ers P K mg) (M : Mk K C f) (D : DiskC K C) (F : Fun K "__init__" "Disk.__init__" s_Disk___init__ f fd) (hm : mg "Disk" = some (.ref C)) (b : Binds K fd ["self", "many"] []) (T : Bt mg) (c_is_size : Cal P w K mg base 2 "is_size" (spSize K)) : Mak P w K mg base 3 "Disk" C (spDiskInit P K mg ER C) := by
  refine mak_of M hm F b sc_Disk___init__ (fun vs H Q E h => ?_) (fun cdv A outer s H vs Q E hr h => ?_)
  · obtain ⟨a, dx, v, d, rfl, _⟩ := h
    rfl
  · obtain ⟨a, dx, v, d, rfl, ea, hv, q⟩ := h
    have hu64 := pass_hu64 hr
    refine ⟨_, (pss_cons (ps_if (pt_not (pt_val (pe_c c_is_size hr (by decide) (by rfl) (pa_cons (pv 1) pa_nil))))
    (pss_one (ps_raiseErr rfl ER.InvalidNumber hr (takes_of rfl rfl rfl rfl) (pa_cons (pe_un un_neg pe_int) pa_nil)))
    pss_nil)
    (pss_cons (ps_fld (pv 0) (pe_callTy cTuple (by rfl) T.tuple (by decide +kernel) (pa_cons (pe_op oMul (pe_lst (pa_cons (pe_tup pa_nil) pa_nil)) (pv 1)) pa_nil)) rfl)
    (pss_cons (ps_fld (pv 0) (pe_fld (pv 0) rfl) rfl)
    (pss_one (ps_fld (pv 0) (pe_tup pa_nil) rfl))))), ?_⟩
    try dsimp only [cxOf]
    walk_at "y"
    refine ⟨v, d, rfl, hv, ?_⟩
    rcases q with ⟨hn, hE⟩ | ⟨m, rfl, hs, q⟩
    · rw [hn]
      walk_at "y"
      exact x_kerr fun e H2 e2 h2 => hE e H2 e2 h2
    rw [show isSizeD (.int (m : Int)) = true from sizeOk_is hs]
    cases hv
    walk_at "y"
    refine x_mkr fun p1 H1 e1 n1 h1 => ?_
    walk_at "y"
    refine x_mkl fun p2 H2 e2 n2 h2 => ?_
    walk_at "y"
    refine x_mull h2 (by omega) (by simp; have := hs.2.1; omega) (by have := hs.2.1; omega) fun p3 H3 e3 n3 h3 => ?_
    rw [Int.toNat_natCast, flat_rep] at h3
    walk_at "y"
    refine x_tupl h3 fun p4 H4 e4 n4 h4 => ?_
    walk_at "y"
    have E4 := ((e1.trans e2).trans e3).trans e4
    refine x_ksfld (E4 _ _ ea) D.ins.cl D.a_slots (by simp) rfl fun H5 g5 h5 => ?_
    replace h5 : H5 a = some (.ins C dx [_]) := h5
    walk_at "y"
    refine x_kfld h5 D.ins.cl D.a_slots rfl ?_
    walk_at "y"
    refine x_ksfld h5 D.ins.cl D.a_safe (by simp) rfl fun H6 g6 h6 => ?_
    replace h6 : H6 a = some (.ins C dx [_, _]) := h6
    walk_at "y"
    refine x_mkt (K := K) .nil fun v7 H7 e7 w7 => ?_
    walk_at "y"
    refine x_ksfld (e7 _ _ h6) D.ins.cl D.a_puts (by simp) rfl fun H8 g8 h8 => ?_
    replace h8 : H8 a = some (.ins C dx [_, _, _]) := h8
    walk_at "y"
    have G4 : Go [a] H4 H8 := ((g5.trans g6).trans e7.go).trans g8
    have w : Wt K H8 (.ref p4) (.tuple (List.replicate m (.tuple []))) := .tup (G4.tup _ _ h4) (WtL.replicate (.tup (G4.tup _ _ ((e2.trans (e3.trans e4)) _ _ h1)) .nil) m)
    exact q H8 (E4.go.trans G4) ⟨dx, _, _, _, h8, w, w, w7.go g8 rfl⟩
/-! ### put, flush -/
def BadSlot (d : PyData) (n : Nat) : Prop := isNum d = false ∨ ∃ k : Nat, d = .int k ∧ n ≤ k
def spPut (P : Program) (K : PySem.W.Frag) (mg : Str → Option Value) (ER : Ers P K mg) (C : Addr) : Sp := fun vs H Q E => ∃ a v ds y d sl sf pu, vs = [.ref a, v, y] ∧ DiskAt K C a sl sf pu H ∧ DOk sl sf pu ∧ Wt K H v ds ∧ ((BadSlot ds sl.length ∧ Errs E ER.cS (-1) H) ∨ ∃ n : Nat, ds = .int n ∧ n < sl.length ∧ Wt K H y d ∧ tupOnly d = true ∧ sl.length ≤ 64 ∧ pu.length ≤ 1000 ∧
  ∀ H', Go [a] H H' → DiskAt K C a (sl.set n d) sf (pu ++ [(n, d)]) H' → Q .non H')
theorem set_cut (sl : List PyData) (n : Nat) (d : PyData) (h : n < sl.length) : sl.take n ++ [d] ++ sl.drop (n + 1) = sl.set n d := by
  rw [List.set_eq_take_append_cons_drop, if_pos h, List.append_assoc]
  rfl
abbrev s_Disk_put : Stmt := inClass (top 15) 1
abbrev nms_Disk_put : List Str := ["self", "slot", "entry"]
theorem sc_Disk_put : FnScope nms_Disk_put ["self", "slot", "entry"] (defScope s_Disk_put) := ⟨rfl, rfl, rfl, by decide +kernel, rfl, by decide +kernel, by decide +kernel⟩
theorem ok_put {f C : Addr} {fd : FuncData} (ER : Ers P K mg) (D : DiskC K C) (me : Meth K C "put" f) (F : Fun K "put" "Disk.put" s_Disk_put f fd) (b : Binds K fd ["self", "slot", "entry"] []) (T : Bt mg) (c_is_number : Cal P w K mg base 1 "is_number" (spNum K)) : Met P w K mg base 2 C "put" (spPut P K mg ER C) := by
  refine met_of D.ins.cl me F b sc_Disk_put (fun vs H Q E h => ?_) (fun cdv A outer s H vs Q E hr h => ?_)
  · obtain ⟨a, v, ds, y, d, sl, sf, pu, rfl, _⟩ := h
    rfl
  · obtain ⟨a, v, ds, y, d, sl, sf, pu, rfl, ⟨dx, v1, v2, v3, ea, w1, w2, w3⟩, o, hv, q⟩ := h
    have hu64 := pass_hu64 hr
    refine ⟨_, (pss_cons (ps_if (PW.pt (pw_or (pt_not (pt_val (pe_c c_is_number hr (by decide) (by rfl) (pa_cons (pv 1) pa_nil)))) (pw_or1 (pt_cmpR op_ge (pv 1) (pe_callB cLen (by rfl) T.len (by decide +kernel) (pa_cons (pe_fld (pv 0) rfl) pa_nil)) (nomark _)))))
    (pss_one (ps_raiseErr rfl ER.InvalidSlot hr (takes_of rfl rfl rfl rfl) (pa_cons (pe_un un_neg pe_int) pa_nil)))
    pss_nil)
    (pss_cons (ps_fld (pv 0) (pe_op (oAddK K) (pe_op (oAddK K) (pe_slice (oSlK K) (pe_fld (pv 0) rfl) po_none (po_some (pv 1))) (pe_tup (pa_cons (pv 2) pa_nil))) (pe_slice (oSlK K) (pe_fld (pv 0) rfl) (po_some (pe_op (oAddK K) (pv 1) pe_int)) po_none)) rfl)
    (pss_one (ps_fld (pv 0) (pe_op (oAddK K) (pe_fld (pv 0) rfl) (pe_tup (pa_cons (pe_tup (pa_cons (pv 1) (pa_cons (pv 2) pa_nil))) pa_nil))) rfl)))), ?_⟩
    try dsimp only [cxOf]
    walk_at "y"
    refine x_num hv ?_
    rcases q with ⟨bad, hE⟩ | ⟨n, rfl, hn, hy, hd, l1, l2, q⟩
    · rcases bad with hb | ⟨k, rfl, hk⟩
      · rw [hb]
        walk_at "y"
        exact x_kerr fun e H2 e2 h2 => hE e H2 e2 h2
      · rw [show isNum (.int (k : Int)) = true from by simp [isNum]]
        cases hv
        walk_at "y"
        refine x_kfld ea D.ins.cl D.a_slots rfl ?_
        walk_at "y"
        refine x_lend w1 ?_
        walk_at "y"
        rw [show decide ((k : Int) ≥ sl.length) = true from decide_eq_true (by omega)]
        walk_at "y"
        exact x_kerr fun e H2 e2 h2 => hE e H2 e2 h2
    rw [show isNum (.int (n : Int)) = true from by simp [isNum]]
    cases hv
    walk_at "y"
    refine x_kfld ea D.ins.cl D.a_slots rfl ?_
    walk_at "y"
    refine x_lend w1 ?_
    walk_at "y"
    rw [show decide ((n : Int) ≥ sl.length) = false from decide_eq_false (by omega)]
    walk_at "y"
    refine x_kfld ea D.ins.cl D.a_slots rfl ?_
    walk_at "y"
    refine x_slt w1 fun v4 H1 e1 w4 => ?_
    rw [cut_to] at w4
    walk_at "y"
    refine x_mkt (.cons (hy.ex e1) .nil) fun v5 H2 e2 w5 => ?_
    refine x_addt (w4.ex e2) w5 (by simp; omega) fun v6 H3 e3 w6 => ?_
    have E3 := (e1.trans e2).trans e3
    walk_at "y"
    refine x_kfld (E3 _ _ ea) D.ins.cl D.a_slots rfl ?_
    walk_at "y"
    rw [show ((n : Int) + 1) = ((n + 1 : Nat) : Int) from by omega]
    refine x_slt (w1.ex E3) fun v7 H4 e4 w7 => ?_
    rw [cut_from] at w7
    refine x_addt (w6.ex e4) w7 (by simp; omega) fun v8 H5 e5 w8 => ?_
    rw [set_cut _ _ _ hn] at w8
    walk_at "y"
    have E5 := E3.trans (e4.trans e5)
    refine x_ksfld (E5 _ _ ea) D.ins.cl D.a_slots (by simp) rfl fun H6 g6 h6 => ?_
    replace h6 : H6 a = some (.ins C dx [("slots", v8), ("_safe", v2), ("puts", v3)]) := h6
    walk_at "y"
    refine x_kfld h6 D.ins.cl D.a_puts rfl ?_
    have tp := o.tp
    have w3' := (w3.ex E5).go g6 tp
    have hy' := (hy.ex E5).go g6 hd
    walk_at "y"
    refine x_mkt (.cons (.int _) (.cons hy' .nil)) fun v9 H7 e7 w9 => ?_
    walk_at "y"
    refine x_mkt (.cons w9 .nil) fun v10 H8 e8 w10 => ?_
    refine x_addt (w3'.ex (e7.trans e8)) w10 (by simp; omega) fun v11 H9 e9 w11 => ?_
    walk_at "y"
    have E9 := (e7.trans e8).trans e9
    refine x_ksfld (E9 _ _ h6) D.ins.cl D.a_puts (by simp) rfl fun H10 g10 h10 => ?_
    replace h10 : H10 a = some (.ins C dx [("slots", v8), ("_safe", v2), ("puts", v11)]) := h10
    walk_at "y"
    have G : Go [a] H5 H10 := (g6.trans E9.go).trans g10
    have tset : ∀ x ∈ sl.set n d, tupOnly x = true := fun x hx => by
      rcases List.mem_or_eq_of_mem_set hx with z | z
      · exact o.hsl x z
      · rw [z]; exact hd
    refine q H10 (E5.go.trans G) ⟨dx, _, _, _, h10, w8.go G (tup_to tset), (w2.ex E5).go G (tup_to o.hsf), ?_⟩
    rw [List.map_append]
    refine w11.go g10 (tup_to fun x hx => ?_)
    rcases List.mem_append.mp hx with z | z
    · exact tupOnlyL_iff.mp tp x z
    · rw [List.mem_singleton.mp z]
      exact putD_to (p := (n, d)) hd
def spFlush (K : PySem.W.Frag) (C : Addr) : Sp := fun vs H Q _ => ∃ a sl sf pu, vs = [.ref a] ∧ DiskAt K C a sl sf pu H ∧ DOk sl sf pu ∧ ∀ H', Go [a] H H' → DiskAt K C a sl sl [] H' → Q .non H'
abbrev s_Disk_flush : Stmt := inClass (top 15) 2
abbrev nms_Disk_flush : List Str := ["self"]
theorem sc_Disk_flush : FnScope nms_Disk_flush ["self"] (defScope s_Disk_flush) := ⟨rfl, rfl, rfl, by decide +kernel, rfl, by decide +kernel, by decide +kernel⟩
theorem ok_flush {f C : Addr} {fd : FuncData} (D : DiskC K C) (me : Meth K C "flush" f) (F : Fun K "flush" "Disk.flush" s_Disk_flush f fd) (b : Binds K fd ["self"] []) : Met P w K mg base 1 C "flush" (spFlush K C) := by
  refine met_of D.ins.cl me F b sc_Disk_flush (fun vs H Q E h => ?_) (fun cdv A outer s H vs Q E hr h => ?_)
  · obtain ⟨a, sl, sf, pu, rfl, _⟩ := h
    rfl
  · obtain ⟨a, sl, sf, pu, rfl, ⟨dx, v1, v2, v3, ea, w1, w2, w3⟩, o, q⟩ := h
    refine ⟨_, (pss_cons (ps_fld (pv 0) (pe_fld (pv 0) rfl) rfl)
    (pss_one (ps_fld (pv 0) (pe_tup pa_nil) rfl))), ?_⟩
    try dsimp only [cxOf]
    walk_at "y"
    refine x_kfld ea D.ins.cl D.a_slots rfl ?_
    walk_at "y"
    refine x_ksfld ea D.ins.cl D.a_safe (by simp) rfl fun H1 g1 h1 => ?_
    replace h1 : H1 a = some (.ins C dx [("slots", v1), ("_safe", v1), ("puts", v3)]) := h1
    walk_at "y"
    refine x_mkt (K := K) .nil fun v4 H2 e2 w4 => ?_
    walk_at "y"
    refine x_ksfld (e2 _ _ h1) D.ins.cl D.a_puts (by simp) rfl fun H3 g3 h3 => ?_
    replace h3 : H3 a = some (.ins C dx [("slots", v1), ("_safe", v1), ("puts", v4)]) := h3
    walk_at "y"
    have G := (g1.trans e2.go).trans g3
    exact q H3 G ⟨dx, _, _, _, h3, w1.go G (tup_to o.hsl), w1.go G (tup_to o.hsl), w4.go g3 rfl⟩
/-! ### fall -/
def putAt (pu : List (Nat × PyData)) (s : List PyData) (k : Nat) : List PyData := match pu[k]? with
  | some p => s.set p.1 p.2
  | none => s
theorem putAt_some {pu : List (Nat × PyData)} {s : List PyData} {k : Nat} {p : Nat × PyData} (h : pu[k]? = some p) : putAt pu s k = s.set p.1 p.2 := by unfold putAt; rw [h]
theorem putAt_none {pu : List (Nat × PyData)} {s : List PyData} {k : Nat} (h : pu[k]? = none) : putAt pu s k = s := by unfold putAt; rw [h]
def cutP (pu : List (Nat × PyData)) (sf : List PyData) (ns : List Nat) : List PyData := ns.foldl (putAt pu) sf
theorem cutP_len (pu : List (Nat × PyData)) (ns : List Nat) : ∀ sf : List PyData, (cutP pu sf ns).length = sf.length := by
  induction ns with
  | nil => intro sf; rfl
  | cons n ns ih =>
    intro sf
    show (cutP pu _ ns).length = _
    rw [ih]
    unfold putAt
    split <;> simp
theorem cutP_take {pu : List (Nat × PyData)} {sf : List PyData} {ns : List Nat} {i n : Nat} {p : Nat × PyData} (hn : ns[i]? = some n) (hp : pu[n]? = some p) : cutP pu sf (ns.take (i + 1)) = (cutP pu sf (ns.take i)).set p.1 p.2 := by
  rw [List.take_add_one, hn]
  unfold cutP
  rw [List.foldl_append]
  show putAt pu _ n = _
  rw [putAt_some hp]
theorem cutP_to {pu : List (Nat × PyData)} (hp : ∀ p ∈ pu, tupOnly p.2 = true) (ns : List Nat) : ∀ sf : List PyData, (∀ d ∈ sf, tupOnly d = true) → ∀ d ∈ cutP pu sf ns, tupOnly d = true := by
  induction ns with
  | nil => intro sf h; exact h
  | cons n ns ih =>
    intro sf h
    refine ih _ ?_
    cases e : pu[n]? with
    | none => rw [putAt_none e]; exact h
    | some p =>
      rw [putAt_some e]
      intro d hd
      rcases List.mem_or_eq_of_mem_set hd with z | z
      · exact h d z
      · rw [z]; exact (hp p (List.mem_of_getElem? e))
def spFall (P : Program) (K : PySem.W.Frag) (mg : Str → Option Value) (ER : Ers P K mg) (C : Addr) : Sp := fun vs H Q E => ∃ a v d sl sf pu, vs = [.ref a, v] ∧ DiskAt K C a sl sf pu H ∧ DOk sl sf pu ∧ Wt K H v d ∧ sf.length ≤ 64 ∧ (match lotD d pu.length with
  | none => Errs E ER.cL (-1) H
  | some ns => (∀ n ∈ ns, n < pu.length) ∧ ns.length ≤ 1000 ∧ ∀ H', Go [a] H H' → DiskAt K C a (cutP pu sf ns) (cutP pu sf ns) [] H' → Q .non H')
abbrev s_Disk_fall : Stmt := inClass (top 15) 3
abbrev nms_Disk_fall : List Str := ["self", "kept", "lot", "slots", "k"]
theorem sc_Disk_fall : FnScope nms_Disk_fall ["self", "kept"] (defScope s_Disk_fall) := ⟨rfl, rfl, rfl, by decide +kernel, rfl, by decide +kernel, by decide +kernel⟩
theorem ok_fall {f C : Addr} {fd : FuncData} (ER : Ers P K mg) (D : DiskC K C) (me : Meth K C "fall" f) (F : Fun K "fall" "Disk.fall" s_Disk_fall f fd) (b : Binds K fd ["self", "kept"] []) (T : Bt mg) (c_lot_within : Cal P w K mg base 2 "lot_within" (spLot K)) : Met P w K mg base 3 C "fall" (spFall P K mg ER C) := by
  refine met_of D.ins.cl me F b sc_Disk_fall (fun vs H Q E h => ?_) (fun cdv A outer s H vs Q E hr h => ?_)
  · obtain ⟨a, v, d, sl, sf, pu, rfl, _⟩ := h
    rfl
  · obtain ⟨a, v, d, sl, sf, pu, rfl, ⟨dx, v1, v2, v3, ea, w1, w2, w3⟩, o, hv, l1, q⟩ := h
    have hu64 := pass_hu64 hr
    refine ⟨_, (pss_cons (ps_set (i := 2) sc_Disk_fall.nd rfl (by first | exact Or.inl rfl | exact Or.inr rfl) (pe_c c_lot_within hr (by decide) (by rfl) (pa_cons (pv 1) (pa_cons (pe_callB cLen (by rfl) T.len (by decide +kernel) (pa_cons (pe_fld (pv 0) rfl) pa_nil)) pa_nil))))
    (pss_cons (ps_if (pt_cmpR op_isN1 (pv 2) pe_non (nomark _))
    (pss_one (ps_raiseErr rfl ER.InvalidLot hr (takes_of rfl rfl rfl rfl) (pa_cons (pe_un un_neg pe_int) pa_nil)))
    pss_nil)
    (pss_cons (ps_set (i := 3) sc_Disk_fall.nd rfl (by first | exact Or.inl rfl | exact Or.inr rfl) (pe_callTy cList (by rfl) T.list (by decide +kernel) (pa_cons (pe_fld (pv 0) rfl) pa_nil)))
    (pss_cons (ps_for (passes_of rfl) rfl (pi_tup (pv 2)) (pg_name (i := 4) sc_Disk_fall.nd rfl (by first | exact Or.inl rfl | exact Or.inr rfl))
    (pss_one (ps_asg (pe_ix (oIxK K) (pe_ix (oIxK K) (pe_fld (pv 0) rfl) (pv 4) (fun _ _ => rfl)) pe_int (fun _ _ => rfl)) (pg_sub (pv 3) (pe_ix (oIxK K) (pe_ix (oIxK K) (pe_fld (pv 0) rfl) (pv 4) (fun _ _ => rfl)) pe_int (fun _ _ => rfl)) set_list))))
    (pss_cons (ps_fld (pv 0) (pe_callTy cTuple (by rfl) T.tuple (by decide +kernel) (pa_cons (pv 3) pa_nil)) rfl)
    (pss_cons (ps_fld (pv 0) (pe_fld (pv 0) rfl) rfl)
    (pss_one (ps_fld (pv 0) (pe_tup pa_nil) rfl)))))))), ?_⟩
    try dsimp only [cxOf]
    walk_at "y"
    refine x_kfld ea D.ins.cl D.a_puts rfl ?_
    walk_at "y"
    refine x_lend w3 ?_
    walk_at "y"
    rw [List.length_map]
    refine ⟨v, d, pu.length, rfl, hv, ?_⟩
    cases hl : lotD d pu.length with
    | none =>
      rw [hl] at q
      intro H1 e1
      walk_at "y"
      exact x_kerr fun e H2 e2 h2 => q e H2 (e1.trans e2) h2
    | some ns =>
    rw [hl] at q
    obtain ⟨ha, l2, q⟩ := q
    intro p1 H1 e1 h1
    walk_at "y"
    refine x_kfld (e1 _ _ ea) D.ins.cl D.a_safe rfl ?_
    walk_at "y"
    have w2' := w2.ex e1
    cases w2' with
    | @tup a2 xs _ ea2 wa2 =>
    refine x_lstt ea2 fun l H2 e2 n2 h2 => ?_
    walk_at "y"
    have EA : Ex H H2 := e1.trans e2
    have na : a ≠ l := fun z => by have := e1 _ _ ea; rw [z, n2] at this; cases this
    have tsf : tupOnlyL sf = true := tupOnlyL_iff.mpr o.hsf
    refine y_forT (fun i σ H' => Go [l] H2 H' ∧ ∃ (o : Option V) (ys : List V), σ = [some (.ref a), some v, some (.ref p1), some (.ref l), o] ∧ H' l = some (.lst ys) ∧ WtL K H' ys (cutP pu sf (ns.take i))) (e2 _ _ h1) ⟨Go.refl _ _, _, xs, rfl, h2, wa2.ex e2⟩ (fun i σ H' p => p.1.tup _ _ (e2 _ _ h1)) (fun i x σ H' hx p => ?_) fun σ H' p => ?_
    · obtain ⟨g, oo, ys, rfl, hl, wl⟩ := p
      obtain ⟨n, hn, rfl⟩ := nums_at hx
      have hlt := ha n (List.mem_of_getElem? hn)
      obtain ⟨p, hp⟩ : ∃ p, pu[n]? = some p := ⟨pu[n], List.getElem?_eq_getElem hlt⟩
      have hpm := o.hpu p (List.mem_of_getElem? hp)
      have ea' := g.keep a _ (by simp [na]) (EA _ _ ea)
      have w3' := (w3.ex EA).go g o.tp
      have hpd : (pu.map putD)[n]? = some (putD p) := by rw [List.getElem?_map, hp]; rfl
      walk_at "y"
      refine x_kfld ea' D.ins.cl D.a_puts rfl ?_
      walk_at "y"
      refine x_ixd w3' rfl hpd fun u wu => ?_
      walk_at "y"
      refine x_ixd (n := 1) (d := p.2) wu rfl rfl fun u2 wu2 => ?_
      walk_at "y"
      refine x_kfld ea' D.ins.cl D.a_puts rfl ?_
      walk_at "y"
      refine x_ixd w3' rfl hpd fun u3 wu3 => ?_
      walk_at "y"
      refine x_ixd (n := 0) (d := .int (p.1 : Int)) wu3 rfl rfl fun u4 wu4 => ?_
      cases wu4
      refine x_setl hl rfl (by rw [wl.len, cutP_len]; exact hpm.2) fun H3 g3 h3 => ?_
      refine ⟨g.trans g3, _, _, rfl, h3, ?_⟩
      rw [cutP_take hn hp]
      have : tupOnlyL ((cutP pu sf (ns.take i)).set p.1 p.2) = true := tupOnlyL_iff.mpr fun x hx => by
        rcases List.mem_or_eq_of_mem_set hx with z | z
        · exact cutP_to (fun p hp => (o.hpu p hp).1) _ _ o.hsf x z
        · rw [z]; exact hpm.1
      exact (wl.set wu2 p.1).go g3 this
    · obtain ⟨g, oo, ys, rfl, hl, wl⟩ := p
      have ea' := g.keep a _ (by simp [na]) (EA _ _ ea)
      have et : ns.take (nums ns).length = ns := by unfold nums; rw [List.length_map, List.take_length]
      rw [et] at wl
      walk_at "y"
      refine x_tupl hl fun p5 H5 e5 n5 h5 => ?_
      walk_at "y"
      refine x_ksfld (e5 _ _ ea') D.ins.cl D.a_slots (by simp) rfl fun H6 g6 h6 => ?_
      replace h6 : H6 a = some (.ins C dx [("slots", .ref p5), ("_safe", .ref a2), ("puts", v3)]) := h6
      walk_at "y"
      refine x_kfld h6 D.ins.cl D.a_slots rfl ?_
      walk_at "y"
      refine x_ksfld h6 D.ins.cl D.a_safe (by simp) rfl fun H7 g7 h7 => ?_
      replace h7 : H7 a = some (.ins C dx [("slots", .ref p5), ("_safe", .ref p5), ("puts", v3)]) := h7
      walk_at "y"
      refine x_mkt (K := K) .nil fun v8 H8 e8 w8 => ?_
      walk_at "y"
      refine x_ksfld (e8 _ _ h7) D.ins.cl D.a_puts (by simp) rfl fun H9 g9 h9 => ?_
      replace h9 : H9 a = some (.ins C dx [("slots", .ref p5), ("_safe", .ref p5), ("puts", v8)]) := h9
      walk_at "y"
      have G : Go [a] H5 H9 := ((g6.trans g7).trans e8.go).trans g9
      have wt : Wt K H9 (.ref p5) (.tuple (cutP pu sf ns)) := (Wt.tup h5 (wl.ex e5)).go G (tup_to (cutP_to (fun p hp => (o.hpu p hp).1) _ _ o.hsf))
      exact q H9 (Go.fresh EA (e1.free n2) ((g.mono (by simp)).trans (e5.go.trans (G.mono (by simp))))) ⟨dx, _, _, _, h9, wt, wt, w8.go g9 rfl⟩
end
end Y
/-! part B2 -/
/-! Plain values, keys, pages. -/
namespace Y
open PySem L2
local macro_rules | `(tactic| walk_at "y1") => `(tactic| (first
  | (with_reducible refine x_seq ?_) | (with_reducible refine x_asg ?_) | (with_reducible refine x_name ?_) | (with_reducible refine x_drop ?_) | (with_reducible refine x_ret ?_) | (with_reducible refine x_retN ?_)
  | (with_reducible refine x_next ?_) | (with_reducible refine x_brk ?_) | (with_reducible refine x_ifS ?_)
  | (with_reducible refine x_c ?_) | (with_reducible refine x_op ?_) | (with_reducible refine x_un ?_) | (with_reducible refine x_cb ?_) | (with_reducible refine x_cons ?_) | (with_reducible refine x_nil ?_)
  | (with_reducible refine x_call ?_) | (with_reducible refine x_tup ?_) | (with_reducible refine x_lst ?_) | (with_reducible refine x_sl ?_) | (with_reducible refine x_nopart ?_) | (with_reducible refine x_part ?_)
  | (with_reducible refine x_andV ?_) | (with_reducible refine x_orV ?_) | (with_reducible refine x_notV ?_) | (with_reducible refine x_if ?_) | (with_reducible refine x_test ?_) | (with_reducible refine x_tb ?_)
  | (with_reducible refine x_and ?_) | (with_reducible refine x_or ?_) | (with_reducible refine x_not ?_) | (with_reducible refine x_chain ?_) | (with_reducible refine x_exbl ?_) | (with_reducible refine x_exint ?_)
  | (with_reducible refine x_fld ?_) | (with_reducible refine x_sfld ?_) | (with_reducible refine x_par ?_) | (with_reducible refine x_par3 ?_) | (with_reducible refine x_dget ?_) | (with_reducible refine x_dput ?_)
  | (with_reducible refine x_bm ?_) | (with_reducible refine x_bm0 ?_) | (with_reducible refine x_pair ?_) | (with_reducible refine x_tri ?_) | (with_reducible refine x_int ?_) | (with_reducible refine x_intb ?_) | (with_reducible refine x_abs ?_) | (with_reducible refine x_isN ?_) | (with_reducible refine x_notN ?_) | (with_reducible refine x_meth ?_) | (with_reducible refine x_make ?_)
  | (with_reducible refine x_ite1 ?_) | (with_reducible refine x_ite0 ?_)
  | (with_reducible refine x_addi ?_) | (with_reducible refine x_neg ?_) | (with_reducible refine x_i0 ?_) | (with_reducible refine x_eqi ?_) | (with_reducible refine x_eqs ?_) | (with_reducible refine x_eqb ?_) | (with_reducible refine x_nei ?_) | (with_reducible refine x_lti ?_)
  | (with_reducible refine x_forL ?_) | (with_reducible refine x_forT ?_) | (with_reducible refine x_forR ?_) | (with_reducible refine x_forR2 ?_) | (with_reducible refine x_lcL ?_) | (with_reducible refine x_lcT ?_) | (with_reducible refine x_lcR ?_)
  | (with_reducible refine x_yes ?_) | (with_reducible refine x_pcons ?_) | (with_reducible refine x_pnil ?_) | (with_reducible refine x_gcons ?_) | (with_reducible refine x_gnil ?_) | (with_reducible refine x_gattr ?_) | (with_reducible refine x_raise ?_) | (with_reducible refine x_gsub ?_) | (with_reducible refine x_fldaug ?_) | (with_reducible refine x_radd ?_) | (with_reducible refine x_ipi ?_) | ((with_reducible refine x_aug (x := ?vv) ?hh ?qq); (case hh => exact rfl))
  | ((with_reducible refine x_iteA ?hc ?q); (case hc => exact rfl)) | ((with_reducible refine x_iteB ?hc ?q); (case hc => exact rfl))
  | ((with_reducible refine x_var (v := ?vv) ?hh ?qq); (case hh => exact rfl))
  | ((with_reducible refine r_isInt (d := ?dd) ?hh ?qq); (case hh => assumption)) | ((with_reducible refine r_isBool (d := ?dd) ?hh ?qq); (case hh => assumption)) | ((with_reducible refine r_isTup (d := ?dd) ?hh ?qq); (case hh => assumption))
  | ((with_reducible refine r_isStr (d := ?dd) ?hh ?qq); (case hh => assumption)) | ((with_reducible refine r_isLst (d := ?dd) ?hh ?qq); (case hh => assumption))))
local macro_rules | `(tactic| walk_at "y") => `(tactic| (repeat (walk_at "y1")))
theorem plainL_append : ∀ (a b : List PyData), plainL (a ++ b) = (plainL a && plainL b)
  | [], b => rfl
  | x :: a, b => by
    show (isPlain x && plainL (a ++ b)) = ((isPlain x && plainL a) && plainL b)
    rw [plainL_append a b, Bool.and_assoc]
theorem nodesL_append : ∀ (a b : List PyData), nodesL (a ++ b) = nodesL a + nodesL b
  | [], b => by
    show nodesL b = 0 + nodesL b
    omega
  | x :: a, b => by
    show nodes x + nodesL (a ++ b) = nodes x + nodesL a + nodesL b
    rw [nodesL_append a b]
    omega
theorem nodes_pos (d : PyData) : 0 < nodes d := by
  cases d <;> simp [nodes]
theorem nodesL_len : ∀ a : List PyData, a.length ≤ nodesL a
  | [] => Nat.zero_le _
  | x :: a => by
    show a.length + 1 ≤ nodes x + nodesL a
    have := nodesL_len a
    have := nodes_pos x
    omega
theorem WtL.snoc_inv {K : PySem.W.Frag} {H : Hp} {y : V} : ∀ {zs : List V} {ds : List PyData}, WtL K H (zs ++ [y]) ds → ∃ es e, ds = es ++ [e] ∧ WtL K H zs es ∧ Wt K H y e
  | [], _, .cons h .nil => ⟨[], _, rfl, .nil, h⟩
  | z :: zs, _, .cons h r => by
    obtain ⟨es, e, rfl, h1, h2⟩ := WtL.snoc_inv r
    exact ⟨_ :: es, e, rfl, .cons h h1, h2⟩
section
variable {P : Program} {w : World} {K : PySem.W.Frag} {mg : Str → Option Value} {base : Heap}
/-! ### is_plain -/
def spPlain (K : PySem.W.Frag) : Sp := fun vs H Q _ => ∃ v d, vs = [v] ∧ Wt K H v d ∧ nodes d ≤ 1000 ∧ ∀ H', Ex H H' → Q (.bl (isPlain d)) H'
theorem ex_of_go {H H' H2 : Hp} {l : Addr} (e : Ex H H') (n : H l = none) (g : Go [l] H' H2) : Ex H H2 := (Go.fresh e n g).ex
abbrev s_is_plain : Stmt := top 17
abbrev nms_is_plain : List Str := ["value", "left", "thing"]
theorem sc_is_plain : FnScope nms_is_plain ["value"] (defScope s_is_plain) := ⟨rfl, rfl, rfl, by decide +kernel, rfl, by decide +kernel, by decide +kernel⟩
theorem ok_is_plain {f : Addr} {fd : FuncData} (F : Fun K "is_plain" "is_plain" s_is_plain f fd) (hm : mg "is_plain" = some (.ref f)) (b : Binds K fd ["value"] []) (T : Bt mg) : Cal P w K mg base 1 "is_plain" (spPlain K) := by
  refine cal_of F hm b sc_is_plain (fun vs H Q E h => ?_) (fun cdv A outer s H vs Q E hr h => ?_)
  · obtain ⟨v, d, rfl, _⟩ := h
    rfl
  · obtain ⟨v, d, rfl, hv, hn, q⟩ := h
    have hu64 := pass_hu64 hr
    refine ⟨_, (pss_cons (ps_set (i := 1) sc_is_plain.nd rfl (by first | exact Or.inl rfl | exact Or.inr rfl) (pe_lst (pa_cons (pv 0) pa_nil)))
    (pss_cons (ps_while (passes_of rfl) (pt_truth (pv 1) (by intro _; rfl))
    (pss_cons (ps_set (i := 2) sc_is_plain.nd rfl (by first | exact Or.inl rfl | exact Or.inr rfl) (pe_bm0 PySem.F.plainAttrs_list PySem.F.slot_list_pop PySem.F.type_list_pop mt_pop (pv 1)))
    (pss_one (ps_if (pt_val (pe_callB call_isi (by rfl) T.isinstance (by decide +kernel) (pa_cons (pv 2) (pa_cons (pe_bltn (v := .ty "tuple") (by rfl) T.tuple (by decide +kernel) rfl) pa_nil))))
    (pss_one (ps_expr (pe_bm PySem.F.plainAttrs_list PySem.F.slot_list_extend PySem.F.type_list_extend mt_extend (pv 1) (pa_cons (pe_callTy cList (by rfl) T.list (by decide +kernel) (pa_cons (pv 2) pa_nil)) pa_nil))))
    (pss_one (ps_if (PW.pt (pw_and (pt_cmpR op_notN1 (pv 2) pe_non (nomark _)) (pw_and1 (pt_not (pt_val (pe_callB call_isiT (by rfl) T.isinstance (by decide +kernel) (pa_cons (pv 2) (pa_cons (pe_tup (pa_cons (pe_bltn (v := .ty "int") (by rfl) T.int (by decide +kernel) rfl) (pa_cons (pe_bltn (v := .ty "str") (by rfl) T.str (by decide +kernel) rfl) pa_nil))) pa_nil))))))))
    (pss_one (ps_ret pe_bl))
    pss_nil))))))
    (pss_one (ps_ret pe_bl)))), ?_⟩
    try dsimp only [cxOf]
    walk_at "y"
    refine x_mkl fun l H1 e1 n1 h1 => ?_
    walk_at "y"
    refine y_while (fun m σ H' => Ex H H' ∧ ∃ (ys : List V) (ds : List PyData) (o : Option V), σ = [some v, some (.ref l), o] ∧ H' l = some (.lst ys) ∧ WtL K H ys ds ∧ plainL ds = isPlain d ∧ nodesL ds ≤ 1000 ∧ nodesL ds = m) _ ⟨e1, _, _, _, rfl, h1, .cons hv .nil, ?_, ?_, rfl⟩ (fun m σ H' p => ?_)
    · show (isPlain d && true) = isPlain d
      rw [Bool.and_true]
    · show nodes d + 0 ≤ 1000
      exact hn
    obtain ⟨e2, ys, ds, o, rfl, hl, wl, hp, hz, hm⟩ := p
    walk_at "y"
    refine ⟨_, .inl ⟨ys, SqL.of hl, rfl⟩, ?_⟩
    rcases List.eq_nil_or_concat ys with rfl | ⟨zs, y, rfl⟩
    · cases wl
      rw [show (!([] : List V).isEmpty) = false from rfl]
      walk_at "y"
      rw [show true = isPlain d from hp]
      exact q H' e2
    · rw [List.concat_eq_append] at hl wl ⊢
      obtain ⟨es, e, rfl, w1, w2⟩ := wl.snoc_inv
      rw [show (!(zs ++ [y]).isEmpty) = true from by simp]
      refine x_ite1 ⟨_, fun _ _ h => h, ?_⟩
      rw [plainL_append] at hp
      rw [nodesL_append] at hz hm
      have hn1 : nodesL [e] = nodes e := by show nodes e + 0 = nodes e; omega
      rw [hn1] at hz hm
      have hl1 : es.length ≤ nodesL es := nodesL_len es
      have hne := nodes_pos e
      walk_at "y"
      refine ⟨x_tyl hl, ?_⟩
      walk_at "y"
      refine x_pop hl fun H2 g2 h2 => ?_
      have E2 : Ex H H2 := ex_of_go e2 n1 g2
      have w2' := w2.ex E2
      rcases e with _ | bb | ii | xx | cs | cs | kv
      · walk_at "y"
        cases w2'
        walk_at "y"
        exact ⟨_, by rw [hn1.symm] at hm; omega, E2, zs, es, _, rfl, h2, w1, by rw [← hp]; exact (Bool.and_true _).symm, by omega, rfl⟩
      · walk_at "y"
        cases w2'
        walk_at "y"
        refine x_mkr fun p3 H3 e3 n3 h3 => ?_
        walk_at "y"
        refine x_isiIS (d := .bool bb) (.bl bb) h3 ?_
        rw [show (isIntg (.bool bb) || isStr (.bool bb)) = true from rfl]
        walk_at "y"
        exact ⟨_, by omega, E2.trans e3, zs, es, _, rfl, e3 _ _ h2, w1, by rw [← hp]; exact (Bool.and_true _).symm, by omega, rfl⟩
      · walk_at "y"
        cases w2'
        walk_at "y"
        refine x_mkr fun p3 H3 e3 n3 h3 => ?_
        walk_at "y"
        refine x_isiIS (d := .int ii) (.int ii) h3 ?_
        rw [show (isIntg (.int ii) || isStr (.int ii)) = true from rfl]
        walk_at "y"
        exact ⟨_, by omega, E2.trans e3, zs, es, _, rfl, e3 _ _ h2, w1, by rw [← hp]; exact (Bool.and_true _).symm, by omega, rfl⟩
      · walk_at "y"
        cases w2'
        walk_at "y"
        refine x_mkr fun p3 H3 e3 n3 h3 => ?_
        walk_at "y"
        refine x_isiIS (d := .str xx) (.str xx) h3 ?_
        rw [show (isIntg (.str xx) || isStr (.str xx)) = true from rfl]
        walk_at "y"
        exact ⟨_, by omega, E2.trans e3, zs, es, _, rfl, e3 _ _ h2, w1, by rw [← hp]; exact (Bool.and_true _).symm, by omega, rfl⟩
      · walk_at "y"
        cases w2' with
        | @lst a _ _ ea wa =>
        walk_at "y"
        refine x_mkr fun p3 H3 e3 n3 h3 => ?_
        walk_at "y"
        refine x_isiIS (d := .list cs) (.lst (e3 _ _ ea) (wa.ex e3)) h3 ?_
        rw [show (isIntg (.list cs) || isStr (.list cs)) = false from rfl]
        walk_at "y"
        rw [show false = isPlain d from by rw [← hp]; exact (Bool.and_false _).symm]
        exact q H3 (E2.trans e3)
      · cases w2' with
        | @tup a xs _ ea wa =>
        have w2' : Wt K H2 (.ref a) (.tuple cs) := .tup ea wa
        walk_at "y"
        refine ⟨x_tyl h2, ?_⟩
        walk_at "y"
        refine x_lstt ea fun p3 H3 e3 n3 h3 => ?_
        have hnd : nodes (.tuple cs) = nodesL cs + 1 := rfl
        have hlc := nodesL_len cs
        have w2'' : WtL K H xs cs := by
          cases w2 with
          | @tup _ xs0 _ ea0 wa0 =>
            have := E2 _ _ ea0
            rw [ea] at this
            cases this
            exact wa0
        walk_at "y"
        refine x_extend (e3 _ _ h2) h3 (by rw [w1.len, wa.len]; omega) fun H4 g4 h4 => ?_
        walk_at "y"
        exact ⟨_, by rw [nodesL_append]; omega, ex_of_go (E2.trans e3) n1 g4, _, _, _, rfl, h4, w1.append w2'', by rw [plainL_append, ← hp]; exact congrArg (plainL es && ·) (Bool.and_true _).symm, by rw [nodesL_append]; omega, rfl⟩
      · walk_at "y"
        cases w2' with
        | @obj a C dx fs ea c =>
        walk_at "y"
        refine x_mkr fun p3 H3 e3 n3 h3 => ?_
        walk_at "y"
        refine x_isiIS (d := .dict []) (.obj (e3 _ _ ea) c) h3 ?_
        rw [show (isIntg (.dict []) || isStr (.dict [])) = false from rfl]
        walk_at "y"
        rw [show false = isPlain d from by rw [← hp]; exact (Bool.and_false _).symm]
        exact q H3 (E2.trans e3)
end
end Y
/-! part B3 -/
/-! Keys, pages. -/
namespace Y
open PySem L2
local macro_rules | `(tactic| walk_at "y1") => `(tactic| (first
  | (with_reducible refine x_seq ?_) | (with_reducible refine x_asg ?_) | (with_reducible refine x_name ?_) | (with_reducible refine x_drop ?_) | (with_reducible refine x_ret ?_) | (with_reducible refine x_retN ?_)
  | (with_reducible refine x_next ?_) | (with_reducible refine x_brk ?_) | (with_reducible refine x_ifS ?_)
  | (with_reducible refine x_c ?_) | (with_reducible refine x_op ?_) | (with_reducible refine x_un ?_) | (with_reducible refine x_cb ?_) | (with_reducible refine x_cons ?_) | (with_reducible refine x_nil ?_)
  | (with_reducible refine x_call ?_) | (with_reducible refine x_tup ?_) | (with_reducible refine x_lst ?_) | (with_reducible refine x_sl ?_) | (with_reducible refine x_nopart ?_) | (with_reducible refine x_part ?_)
  | (with_reducible refine x_andV ?_) | (with_reducible refine x_orV ?_) | (with_reducible refine x_notV ?_) | (with_reducible refine x_if ?_) | (with_reducible refine x_test ?_) | (with_reducible refine x_tb ?_)
  | (with_reducible refine x_and ?_) | (with_reducible refine x_or ?_) | (with_reducible refine x_not ?_) | (with_reducible refine x_chain ?_) | (with_reducible refine x_exbl ?_) | (with_reducible refine x_exint ?_)
  | (with_reducible refine x_fld ?_) | (with_reducible refine x_sfld ?_) | (with_reducible refine x_par ?_) | (with_reducible refine x_par3 ?_) | (with_reducible refine x_dget ?_) | (with_reducible refine x_dput ?_)
  | (with_reducible refine x_bm ?_) | (with_reducible refine x_bm0 ?_) | (with_reducible refine x_pair ?_) | (with_reducible refine x_tri ?_) | (with_reducible refine x_int ?_) | (with_reducible refine x_intb ?_) | (with_reducible refine x_abs ?_) | (with_reducible refine x_isN ?_) | (with_reducible refine x_notN ?_) | (with_reducible refine x_meth ?_) | (with_reducible refine x_make ?_)
  | (with_reducible refine x_ite1 ?_) | (with_reducible refine x_ite0 ?_)
  | (with_reducible refine x_addi ?_) | (with_reducible refine x_neg ?_) | (with_reducible refine x_i0 ?_) | (with_reducible refine x_eqi ?_) | (with_reducible refine x_eqs ?_) | (with_reducible refine x_eqb ?_) | (with_reducible refine x_nei ?_) | (with_reducible refine x_lti ?_)
  | (with_reducible refine x_forL ?_) | (with_reducible refine x_forT ?_) | (with_reducible refine x_forR ?_) | (with_reducible refine x_forR2 ?_) | (with_reducible refine x_lcL ?_) | (with_reducible refine x_lcT ?_) | (with_reducible refine x_lcR ?_)
  | (with_reducible refine x_yes ?_) | (with_reducible refine x_pcons ?_) | (with_reducible refine x_pnil ?_) | (with_reducible refine x_gcons ?_) | (with_reducible refine x_gnil ?_) | (with_reducible refine x_gattr ?_) | (with_reducible refine x_raise ?_) | (with_reducible refine x_gsub ?_) | (with_reducible refine x_fldaug ?_) | (with_reducible refine x_radd ?_) | (with_reducible refine x_ipi ?_) | ((with_reducible refine x_aug (x := ?vv) ?hh ?qq); (case hh => exact rfl))
  | ((with_reducible refine x_iteA ?hc ?q); (case hc => exact rfl)) | ((with_reducible refine x_iteB ?hc ?q); (case hc => exact rfl))
  | ((with_reducible refine x_var (v := ?vv) ?hh ?qq); (case hh => exact rfl))
  | ((with_reducible refine r_isInt (d := ?dd) ?hh ?qq); (case hh => assumption)) | ((with_reducible refine r_isBool (d := ?dd) ?hh ?qq); (case hh => assumption)) | ((with_reducible refine r_isTup (d := ?dd) ?hh ?qq); (case hh => assumption))
  | ((with_reducible refine r_isStr (d := ?dd) ?hh ?qq); (case hh => assumption)) | ((with_reducible refine r_isLst (d := ?dd) ?hh ?qq); (case hh => assumption))))
local macro_rules | `(tactic| walk_at "y") => `(tactic| (repeat (walk_at "y1")))
section
variable {P : Program} {w : World} {K : PySem.W.Frag} {mg : Str → Option Value} {base : Heap}
/-! ### all([is_number(..) for ..]) -/
theorem bools_to (bs : List Bool) : tupOnlyL (bs.map .bool) = true := by
  induction bs with
  | nil => rfl
  | cons b bs ih => exact ih
/-! ### is_key -/
def spKey (K : PySem.W.Frag) : Sp := fun vs H Q _ => ∃ v d, vs = [v] ∧ Wt K H v d ∧ ∀ H', Ex H H' → Q (.bl (isKey d)) H'
theorem isKey_long {ds : List PyData} (h : 3 < ds.length) : isKey (.tuple ds) = false := by
  match ds with
  | [] => rfl
  | .str _ :: r =>
    show (decide (r.length ≤ 2) && r.all isNum) = false
    rw [decide_eq_false (by simp at h; omega)]
    rfl
  | .none :: r => rfl
  | .bool _ :: r => rfl
  | .int _ :: r => rfl
  | .list _ :: r => rfl
  | .tuple _ :: r => rfl
  | .dict _ :: r => rfl
theorem isKey_head {d : PyData} {r : List PyData} (h : isStr d = false) : isKey (.tuple (d :: r)) = false := by
  cases d <;> first | rfl | simp [isStr] at h
theorem isKey_not {d : PyData} (h : isTup d = false) : isKey d = false := by
  cases d <;> first | rfl | simp [isTup] at h
abbrev s_is_key : Stmt := top 18
abbrev nms_is_key : List Str := ["value", "part"]
theorem sc_is_key : FnScope nms_is_key ["value"] (defScope s_is_key) := ⟨rfl, rfl, rfl, by decide +kernel, rfl, by decide +kernel, by decide +kernel⟩
theorem ok_is_key {f : Addr} {fd : FuncData} (F : Fun K "is_key" "is_key" s_is_key f fd) (hm : mg "is_key" = some (.ref f)) (b : Binds K fd ["value"] []) (T : Bt mg) (c_is_number : Cal P w K mg base 1 "is_number" (spNum K)) : Cal P w K mg base 2 "is_key" (spKey K) := by
  refine cal_of F hm b sc_is_key (fun vs H Q E h => ?_) (fun cdv A outer s H vs Q E hr h => ?_)
  · obtain ⟨v, d, rfl, _⟩ := h
    rfl
  · obtain ⟨v, d, rfl, hv, q⟩ := h
    have hu64 := pass_hu64 hr
    refine ⟨_, (pss_cons (ps_if (PW.pt (pw_or (pt_not (pt_val (pe_callB call_isi (by rfl) T.isinstance (by decide +kernel) (pa_cons (pv 0) (pa_cons (pe_bltn (v := .ty "tuple") (by rfl) T.tuple (by decide +kernel) rfl) pa_nil))))) (pw_or (pt_not (pt_chain op_le op_le pe_int (pe_callB cLen (by rfl) T.len (by decide +kernel) (pa_cons (pv 0) pa_nil)) pe_int)) (pw_or1 (pt_not (pt_val (pe_callB call_isi (by rfl) T.isinstance (by decide +kernel) (pa_cons (pe_ix (oIxK K) (pv 0) pe_int (fun _ _ => rfl)) (pa_cons (pe_bltn (v := .ty "str") (by rfl) T.str (by decide +kernel) rfl) pa_nil)))))))))
    (pss_one (ps_ret pe_bl))
    pss_nil)
    (pss_one (ps_ret (pe_callB (cr_all rfl) (by rfl) T.all (by decide +kernel) (pa_cons (pe_lc (own := [("part", 1)]) rfl sc_is_key.nd (pi_tup (pe_slice (oSlK K) (pv 0) (po_some pe_int) po_none)) (blkOk_by (N := nms_is_key) (sc := defScope s_is_key) (by decide +kernel)) (fun _ _ _ _ _ => (pg_name (i := 1) sc_is_key.nd rfl (by first | exact Or.inl rfl | exact Or.inr rfl))) (fun _ _ _ _ _ => pts_nil) (fun _ _ _ _ _ => (pe_c c_is_number hr (by decide) (by rfl) (pa_cons (pv 1) pa_nil)))) pa_nil))))), ?_⟩
    try dsimp only [cxOf]
    cases et : isTup d with
    | false =>
      have q1 := q H (Ex.refl H)
      rw [isKey_not et] at q1
      walk_at "y"
      rw [et]
      walk_at "y"
      exact q1
    | true =>
      obtain ⟨ds, rfl⟩ : ∃ ds, d = .tuple ds := by
        cases d with
        | tuple ds => exact ⟨ds, rfl⟩
        | _ => simp [isTup] at et
      walk_at "y"
      refine x_lend hv ?_
      walk_at "y"
      cases ds with
      | nil =>
        have q1 := q H (Ex.refl H)
        rw [show isKey (.tuple []) = false from rfl] at q1
        rw [show decide ((1 : Int) ≤ (([] : List PyData).length : Int)) = false from rfl]
        walk_at "y"
        exact q1
      | cons d0 r =>
        rw [show decide ((1 : Int) ≤ ((d0 :: r).length : Int)) = true from decide_eq_true (by simp; omega)]
        walk_at "y"
        by_cases h3 : (d0 :: r).length ≤ 3
        · rw [show decide (((d0 :: r).length : Int) ≤ 3) = true from decide_eq_true (by omega)]
          walk_at "y"
          refine x_ixd (n := 0) (d := d0) hv rfl rfl fun u wu => ?_
          walk_at "y"
          cases es : isStr d0 with
          | false =>
            have q1 := q H (Ex.refl H)
            rw [isKey_head es] at q1
            walk_at "y"
            exact q1
          | true =>
            obtain ⟨x0, rfl⟩ : ∃ x0, d0 = .str x0 := by
              cases d0 with
              | str x => exact ⟨x, rfl⟩
              | _ => simp [isStr] at es
            walk_at "y"
            refine x_slt hv fun u1 H1 e1 w1 => ?_
            rw [show (1 : Int) = ((1 : Nat) : Int) from rfl, cut_from, show (PyData.str x0 :: r).drop 1 = r from rfl] at w1
            cases w1 with
            | @tup a xs _ ea wa =>
            refine y_lcT [] (fun _ => True) (fun i ds => ds = ((r.take i).map isNum).map .bool) ea (by rw [wa.len]; simp at h3; omega) (by simp) keeps_true trivial rfl (fun i x H2 ds hx g2 _ hds ok no hok hno => ?_) (fun E acc ds H2 nE g2 _ hE wd t hds => ?_)
            · refine turn_name rfl ?_
              obtain ⟨e, he, we⟩ := wa.get hx
              walk_at "y"
              refine x_num (we.ex g2.ex) ?_
              refine hok _ (.bool (isNum e)) H2 (Go.refl _ _) trivial (.bl _) rfl ?_
              dsimp only
              rw [hds, List.take_add_one, he]
              simp
            · rw [wa.len, List.take_length] at hds
              subst hds
              walk_at "y"
              refine x_all hE wd ?_
              have q1 := q H2 (e1.trans g2.ex)
              rw [show isKey (.tuple (.str x0 :: r)) = (decide (r.length ≤ 2) && r.all isNum) from rfl, decide_eq_true (show r.length ≤ 2 by simp at h3; omega), Bool.true_and] at q1
              rw [show ((r.map isNum).all id) = r.all isNum from by rw [List.all_map]; rfl]
              exact q1
        · rw [show decide (((d0 :: r).length : Int) ≤ 3) = false from decide_eq_false (by omega)]
          have q1 := q H (Ex.refl H)
          rw [isKey_long (by omega)] at q1
          walk_at "y"
          exact q1
/-! ### is_page -/
structure PairSide (d : PyData) : Prop where
  h : ∀ k x, d = .tuple [k, x] → k.canLay0 = true ∧ nodes x ≤ 1000
def PageSide (d : PyData) : Prop := ∀ ds, d = .tuple ds → ∀ e ∈ ds, PairSide e
def spPage (K : PySem.W.Frag) : Sp := fun vs H Q _ => ∃ v d, vs = [v] ∧ Wt K H v d ∧ PageSide d ∧ ∀ H', Ex H H' → Q (.bl (isPage d)) H'
theorem isPage_not {d : PyData} (h : isTup d = false) : isPage d = false := by
  cases d <;> first | rfl | simp [isTup] at h
theorem pageL_cons (a : Option PyData) (k x : PyData) (r : List PyData) : isPageL a (.tuple [k, x] :: r) = (isKey k && isPlain x && aheadOk a k && isPageL (some k) r) := rfl
theorem pageL_notTup {a : Option PyData} {d : PyData} {r : List PyData} (h : isTup d = false) : isPageL a (d :: r) = false := by
  cases d <;> first | rfl | simp [isTup] at h
theorem pageL_len {a : Option PyData} {cs : List PyData} {r : List PyData} (h : cs.length ≠ 2) : isPageL a (.tuple cs :: r) = false := by
  match cs with
  | [] => rfl
  | [_] => rfl
  | [_, _] => simp at h
  | _ :: _ :: _ :: _ => rfl
theorem key_shape {k : PyData} (h : isKey k = true) : ∃ x r, k = .tuple (.str x :: r) ∧ r.all isNum = true := by
  match k with
  | .tuple (.str x :: r) =>
    have : (decide (r.length ≤ 2) && r.all isNum) = true := h
    rw [Bool.and_eq_true] at this
    exact ⟨x, r, rfl, this.2⟩
  | .tuple [] => cases h
  | .tuple (.none :: _) => cases h
  | .tuple (.bool _ :: _) => cases h
  | .tuple (.int _ :: _) => cases h
  | .tuple (.list _ :: _) => cases h
  | .tuple (.tuple _ :: _) => cases h
  | .tuple (.dict _ :: _) => cases h
  | .none => cases h
  | .bool _ => cases h
  | .int _ => cases h
  | .str _ => cases h
  | .list _ => cases h
  | .dict _ => cases h
theorem num_shape {d : PyData} (h : isNum d = true) : ∃ i, d = .int i := by
  cases d <;> first | exact ⟨_, rfl⟩ | cases h
theorem alike_nums : ∀ {a b : List PyData}, a.all isNum = true → b.all isNum = true → PySem.W.alikeAll a b = true
  | [], _, _, _ => by simp [PySem.W.alikeAll]
  | _ :: _, [], _, _ => by simp [PySem.W.alikeAll]
  | x :: a, y :: b, h1, h2 => by
    rw [List.all_cons, Bool.and_eq_true] at h1 h2
    obtain ⟨i, rfl⟩ := num_shape h1.1
    obtain ⟨j, rfl⟩ := num_shape h2.1
    rw [PySem.W.alikeAll, alike_nums h1.2 h2.2]
    simp [PySem.W.alike]
theorem alike_keys {a b : PyData} (h1 : isKey a = true) (h2 : isKey b = true) : PySem.W.alike a b = true ∧ a ≠ .none ∧ a.depth ≤ 64 := by
  obtain ⟨x, r, rfl, e1⟩ := key_shape h1
  obtain ⟨y, t, rfl, e2⟩ := key_shape h2
  refine ⟨?_, (fun z => by cases z), ?_⟩
  · show PySem.W.alikeAll (.str x :: r) (.str y :: t) = true
    rw [PySem.W.alikeAll, alike_nums e1 e2]
    simp [PySem.W.alike]
  · refine Nat.succ_le_of_lt (Nat.lt_of_le_of_lt (depthAll_le (n := 0) fun d hd => ?_) (by decide))
    rcases List.mem_cons.mp hd with rfl | hd
    · exact Nat.le_refl _
    · obtain ⟨i, rfl⟩ := num_shape (List.all_eq_true.mp e1 d hd)
      exact Nat.le_refl _
theorem x_ltkey {H : Hp} {Q : VK} {x y : V} {a b : PyData} (h1 : Wt K H x a) (h2 : Wt K H y b) (k1 : isKey a = true) (k2 : isKey b = true) (l1 : a.canLay0 = true) (l2 : b.canLay0 = true) (q : Q (.bl (PySem.W.dataLt a b)) H) : rLtU K x y H Q := by
  obtain ⟨c1, c2, c3⟩ := alike_keys k1 k2
  exact .inr ⟨a, b, h1.dp l1, h2.dp l2, c1, c2, Nat.le_trans (Nat.min_le_left _ _) c3, q⟩
/-- what the name ahead holds -/
def AhAt (K : PySem.W.Frag) (H : Hp) (v : V) : Option PyData → Prop
  | none => v = .non
  | some k => (∃ a, v = .ref a) ∧ Wt K H v k ∧ isKey k = true ∧ k.canLay0 = true
abbrev s_is_page : Stmt := top 19
abbrev nms_is_page : List Str := ["value", "ahead", "pair"]
theorem sc_is_page : FnScope nms_is_page ["value"] (defScope s_is_page) := ⟨rfl, rfl, rfl, by decide +kernel, rfl, by decide +kernel, by decide +kernel⟩
set_option maxHeartbeats 8000000 in
theorem ok_is_page {f : Addr} {fd : FuncData} (F : Fun K "is_page" "is_page" s_is_page f fd) (hm : mg "is_page" = some (.ref f)) (b : Binds K fd ["value"] []) (T : Bt mg) (c_is_key : Cal P w K mg base 2 "is_key" (spKey K)) (c_is_plain : Cal P w K mg base 1 "is_plain" (spPlain K)) : Cal P w K mg base 3 "is_page" (spPage K) := by
  refine cal_of F hm b sc_is_page (fun vs H Q E h => ?_) (fun cdv A outer s H vs Q E hr h => ?_)
  · obtain ⟨v, d, rfl, _⟩ := h
    rfl
  · obtain ⟨v, d, rfl, hv, sd, q⟩ := h
    have hu64 := pass_hu64 hr
    refine ⟨_, (pss_cons (ps_if (pt_not (pt_val (pe_callB call_isi (by rfl) T.isinstance (by decide +kernel) (pa_cons (pv 0) (pa_cons (pe_bltn (v := .ty "tuple") (by rfl) T.tuple (by decide +kernel) rfl) pa_nil)))))
    (pss_one (ps_ret pe_bl))
    pss_nil)
    (pss_cons (ps_set (i := 1) sc_is_page.nd rfl (by first | exact Or.inl rfl | exact Or.inr rfl) pe_non)
    (pss_cons (ps_for (passes_of rfl) rfl (pi_tup (pv 0)) (pg_name (i := 2) sc_is_page.nd rfl (by first | exact Or.inl rfl | exact Or.inr rfl))
    (pss_cons (ps_if (PW.pt (pw_or (pt_not (pt_val (pe_callB call_isi (by rfl) T.isinstance (by decide +kernel) (pa_cons (pv 2) (pa_cons (pe_bltn (v := .ty "tuple") (by rfl) T.tuple (by decide +kernel) rfl) pa_nil))))) (pw_or (pt_cmpR (oNeK K hu64) (pe_callB cLen (by rfl) T.len (by decide +kernel) (pa_cons (pv 2) pa_nil)) pe_int (nomark _)) (pw_or (pt_not (pt_val (pe_c c_is_key hr (by decide) (by rfl) (pa_cons (pe_ix (oIxK K) (pv 2) pe_int (fun _ _ => rfl)) pa_nil)))) (pw_or1 (pt_not (pt_val (pe_c c_is_plain hr (by decide) (by rfl) (pa_cons (pe_ix (oIxK K) (pv 2) pe_int (fun _ _ => rfl)) pa_nil)))))))))
    (pss_one (ps_ret pe_bl))
    pss_nil)
    (pss_cons (ps_if (PW.pt (pw_and (pt_cmpR op_notN1 (pv 1) pe_non (nomark _)) (pw_and1 (pt_not (pt_cmpR (oLtK K hu64) (pv 1) (pe_ix (oIxK K) (pv 2) pe_int (fun _ _ => rfl)) (nomark _))))))
    (pss_one (ps_ret pe_bl))
    pss_nil)
    (pss_one (ps_set (i := 1) sc_is_page.nd rfl (by first | exact Or.inl rfl | exact Or.inr rfl) (pe_ix (oIxK K) (pv 2) pe_int (fun _ _ => rfl)))))))
    (pss_one (ps_ret pe_bl))))), ?_⟩
    try dsimp only [cxOf]
    cases et : isTup d with
    | false =>
      have q1 := q H (Ex.refl H)
      rw [isPage_not et] at q1
      walk_at "y"
      rw [et]
      walk_at "y"
      exact q1
    | true =>
      obtain ⟨ds, rfl⟩ : ∃ ds, d = .tuple ds := by
        cases d with
        | tuple ds => exact ⟨ds, rfl⟩
        | _ => simp [isTup] at et
      have sd := sd ds rfl
      have q : ∀ H', Ex H H' → Q (.bl (isPageL none ds)) H' := q
      have hv' := hv
      cases hv' with
      | @tup p xs _ ea wa =>
      walk_at "y"
      refine y_forT (fun i σ H' => Ex H H' ∧ ∃ (a : Option PyData) (av : V) (o : Option V), σ = [some (.ref p), some av, o] ∧ AhAt K H' av a ∧ isPageL a (ds.drop i) = isPageL none ds) ea ⟨Ex.refl _, none, _, _, rfl, rfl, rfl⟩ (fun i σ H' p => p.1 _ _ ea) (fun i x σ H1 hx p => ?_) fun σ H1 p => ?_
      · obtain ⟨e1, a, av, o, rfl, ah, hp⟩ := p
        obtain ⟨e, he, we⟩ := wa.get hx
        have we := we.ex e1
        have se := sd e (List.mem_of_getElem? he)
        rw [← hp] at q
        obtain ⟨hi, he'⟩ := List.getElem?_eq_some_iff.mp he
        rw [List.drop_eq_getElem_cons hi, he'] at hp q
        cases et2 : isTup e with
        | false =>
          rw [pageL_notTup et2] at q
          walk_at "y"
          rw [et2]
          walk_at "y"
          exact q H1 e1
        | true =>
          obtain ⟨cs, rfl⟩ : ∃ cs, e = .tuple cs := by
            cases e with
            | tuple ds => exact ⟨ds, rfl⟩
            | _ => simp [isTup] at et2
          walk_at "y"
          refine x_lend we ?_
          walk_at "y"
          by_cases hl : cs.length = 2
          · obtain ⟨k, y, rfl⟩ : ∃ k y, cs = [k, y] := by
              match cs with
              | [k, y] => exact ⟨k, y, rfl⟩
              | [] => simp at hl
              | [_] => simp at hl
              | _ :: _ :: _ :: _ => simp at hl
            obtain ⟨kl, ny⟩ := se.h k y rfl
            rw [pageL_cons] at hp q
            rw [show decide ((([k, y] : List PyData).length : Int) = 2) = true from rfl]
            walk_at "y"
            refine x_ixd (n := 0) (d := k) we rfl rfl fun u wu => ?_
            walk_at "y"
            refine ⟨u, k, rfl, wu, fun H2 e2 => ?_⟩
            cases hk : isKey k with
            | false =>
              rw [hk, Bool.false_and, Bool.false_and, Bool.false_and] at q
              walk_at "y"
              exact q H2 (e1.trans e2)
            | true =>
              rw [hk, Bool.true_and] at q hp
              walk_at "y"
              refine x_ixd (n := 1) (d := y) (we.ex e2) rfl rfl fun u2 wu2 => ?_
              walk_at "y"
              refine ⟨u2, y, rfl, wu2, ny, fun H3 e3 => ?_⟩
              have E3 := e1.trans (e2.trans e3)
              have wu3 := wu.ex (e2.trans e3)
              have we3 := we.ex (e2.trans e3)
              cases hy : isPlain y with
              | false =>
                rw [hy, Bool.false_and, Bool.false_and] at q
                walk_at "y"
                exact q H3 E3
              | true =>
                rw [hy, Bool.true_and] at q hp
                obtain ⟨kx, kr, rfl, _⟩ := key_shape hk
                cases a with
                | none =>
                  have ah : av = .non := ah
                  subst ah
                  walk_at "y"
                  refine x_ixd (n := 0) we3 rfl rfl fun u4 wu4 => ?_
                  have wu4' := wu4
                  cases wu4' with
                  | @tup a4 _ _ ea4 wa4 =>
                  walk_at "y"
                  exact ⟨E3, some _, _, _, rfl, ⟨⟨a4, rfl⟩, wu4, hk, kl⟩, hp⟩
                | some k0 =>
                  obtain ⟨⟨a0, rfl⟩, wk0, hk0, kl0⟩ := ah
                  walk_at "y"
                  refine x_ixd (n := 0) we3 rfl rfl fun u4 wu4 => ?_
                  refine x_ltkey (wk0.ex (e2.trans e3)) wu4 hk0 hk kl0 kl ?_
                  have hp : (PySem.W.dataLt k0 (.tuple (.str kx :: kr)) && isPageL (some (.tuple (.str kx :: kr))) (ds.drop (i + 1))) = isPageL none ds := hp
                  have q : ∀ H', Ex H H' → Q (.bl (PySem.W.dataLt k0 (.tuple (.str kx :: kr)) && isPageL (some (.tuple (.str kx :: kr))) (ds.drop (i + 1)))) H' := q
                  cases hlt : PySem.W.dataLt k0 (.tuple (.str kx :: kr)) with
                  | false =>
                    rw [hlt, Bool.false_and] at q
                    walk_at "y"
                    exact q H3 E3
                  | true =>
                    rw [hlt, Bool.true_and] at hp
                    walk_at "y"
                    refine x_ixd (n := 0) we3 rfl rfl fun u5 wu5 => ?_
                    have wu5' := wu5
                    cases wu5' with
                    | @tup a5 _ _ ea5 wa5 =>
                    walk_at "y"
                    exact ⟨E3, some _, _, _, rfl, ⟨⟨a5, rfl⟩, wu5, hk, kl⟩, hp⟩
          · rw [pageL_len hl] at q
            rw [show decide ((cs.length : Int) = 2) = false from decide_eq_false (by omega)]
            walk_at "y"
            exact q H1 e1
      · obtain ⟨e1, a, av, o, rfl, ah, hp⟩ := p
        walk_at "y"
        rw [wa.len, List.drop_length] at hp
        rw [show true = isPageL none ds from hp]
        exact q H1 e1
end
end Y
/-! part B4 -/
/-! A page laid over another. -/
namespace Y
open PySem L2
local macro_rules | `(tactic| walk_at "y1") => `(tactic| (first
  | (with_reducible refine x_seq ?_) | (with_reducible refine x_asg ?_) | (with_reducible refine x_name ?_) | (with_reducible refine x_drop ?_) | (with_reducible refine x_ret ?_) | (with_reducible refine x_retN ?_)
  | (with_reducible refine x_next ?_) | (with_reducible refine x_brk ?_) | (with_reducible refine x_ifS ?_)
  | (with_reducible refine x_c ?_) | (with_reducible refine x_op ?_) | (with_reducible refine x_un ?_) | (with_reducible refine x_cb ?_) | (with_reducible refine x_cons ?_) | (with_reducible refine x_nil ?_)
  | (with_reducible refine x_call ?_) | (with_reducible refine x_tup ?_) | (with_reducible refine x_lst ?_) | (with_reducible refine x_sl ?_) | (with_reducible refine x_nopart ?_) | (with_reducible refine x_part ?_)
  | (with_reducible refine x_andV ?_) | (with_reducible refine x_orV ?_) | (with_reducible refine x_notV ?_) | (with_reducible refine x_if ?_) | (with_reducible refine x_test ?_) | (with_reducible refine x_tb ?_)
  | (with_reducible refine x_and ?_) | (with_reducible refine x_or ?_) | (with_reducible refine x_not ?_) | (with_reducible refine x_chain ?_) | (with_reducible refine x_exbl ?_) | (with_reducible refine x_exint ?_)
  | (with_reducible refine x_fld ?_) | (with_reducible refine x_sfld ?_) | (with_reducible refine x_par ?_) | (with_reducible refine x_par3 ?_) | (with_reducible refine x_dget ?_) | (with_reducible refine x_dput ?_)
  | (with_reducible refine x_bm ?_) | (with_reducible refine x_bm0 ?_) | (with_reducible refine x_pair ?_) | (with_reducible refine x_tri ?_) | (with_reducible refine x_int ?_) | (with_reducible refine x_intb ?_) | (with_reducible refine x_abs ?_) | (with_reducible refine x_isN ?_) | (with_reducible refine x_notN ?_) | (with_reducible refine x_meth ?_) | (with_reducible refine x_make ?_)
  | (with_reducible refine x_ite1 ?_) | (with_reducible refine x_ite0 ?_)
  | (with_reducible refine x_addi ?_) | (with_reducible refine x_neg ?_) | (with_reducible refine x_i0 ?_) | (with_reducible refine x_eqi ?_) | (with_reducible refine x_eqs ?_) | (with_reducible refine x_eqb ?_) | (with_reducible refine x_nei ?_) | (with_reducible refine x_lti ?_)
  | (with_reducible refine x_forL ?_) | (with_reducible refine x_forT ?_) | (with_reducible refine x_forR ?_) | (with_reducible refine x_forR2 ?_) | (with_reducible refine x_lcL ?_) | (with_reducible refine x_lcT ?_) | (with_reducible refine x_lcR ?_)
  | (with_reducible refine x_yes ?_) | (with_reducible refine x_pcons ?_) | (with_reducible refine x_pnil ?_) | (with_reducible refine x_gcons ?_) | (with_reducible refine x_gnil ?_) | (with_reducible refine x_gattr ?_) | (with_reducible refine x_raise ?_) | (with_reducible refine x_gsub ?_) | (with_reducible refine x_fldaug ?_) | (with_reducible refine x_radd ?_) | (with_reducible refine x_ipi ?_) | ((with_reducible refine x_aug (x := ?vv) ?hh ?qq); (case hh => exact rfl))
  | ((with_reducible refine x_iteA ?hc ?q); (case hc => exact rfl)) | ((with_reducible refine x_iteB ?hc ?q); (case hc => exact rfl))
  | ((with_reducible refine x_var (v := ?vv) ?hh ?qq); (case hh => exact rfl))
  | ((with_reducible refine r_isInt (d := ?dd) ?hh ?qq); (case hh => assumption)) | ((with_reducible refine r_isBool (d := ?dd) ?hh ?qq); (case hh => assumption)) | ((with_reducible refine r_isTup (d := ?dd) ?hh ?qq); (case hh => assumption))
  | ((with_reducible refine r_isStr (d := ?dd) ?hh ?qq); (case hh => assumption)) | ((with_reducible refine r_isLst (d := ?dd) ?hh ?qq); (case hh => assumption))))
local macro_rules | `(tactic| walk_at "y") => `(tactic| (repeat (walk_at "y1")))
/-! ### a dict of a page's pairs -/
section
variable {K : PySem.W.Frag} {σ : L2.St} {H : Hp} {Q : VK} {g : TG} {tt : TT} {tk tv te : TE} {vs : List Nat} {a : Addr} {xs : List V}
def kDqT (K : PySem.W.Frag) (g : TG) (tt : TT) (tk tv : TE) (vs : List Nat) (σ : L2.St) (x : V) (H1 : Hp) (Q : VK) : Prop := ∃ a, x = .ref a ∧ (∃ xs, SqT K H1 a xs) ∧ ∀ D, H1 D = none → ∃ W : Nat → Nat → Hp → Prop, (∃ m, W 0 m (upd H1 D (.dT []))) ∧ ∀ i m H, W i m H →
  ((Itt K a).stop i H ∧ Q (.ref D) H) ∨ ((Itt K a).go i H ∧ ∃ Nx : Hp → Prop, (∀ H', Nx H' → ∃ m', m' < m ∧ W (i + 1) m' H') ∧ ∀ x H', (Itt K a).yld i H x H' → g x (wipe σ vs) H' fun σ2 H2 => wipe σ2 vs = wipe σ vs ∧ tt σ2 H2 fun b H3 =>
    if b = true then tk σ2 H3 fun y H4 => tv σ2 H4 fun z H5 => ∃ (kvs : List (List L2.Key × V)) (k : List L2.Key) (b : Addr), y = .ref b ∧ H5 b = some (.tup (k.map kV)) ∧ H5 D = some (.dT kvs) ∧ kvs.length < sizeLine ∧ Nx (upd H5 D (.dT (putK kvs k z))) else Nx H3)
theorem x_dqT (q : te σ H fun x H1 => kDqT K g tt tk tv vs σ x H1 Q) : tDq (iTup K te) g tt tk tv vs σ H Q := q
theorem putAll_snoc (t r : Page) (kv : KeyT × PyData) : putAll t (r ++ [kv]) = putP (putAll t r) kv.1 kv.2 := by unfold putAll; rw [List.foldl_append]; rfl
theorem pair_at {x : V} {H : Hp} {xs : List V} {p : Page} {i : Nat} (w : WtL K H xs (p.map pairD)) (h : xs[i]? = some x) : ∃ kv, p[i]? = some kv ∧ Wt K H x (pairD kv) := by
  obtain ⟨d, hd, wd⟩ := w.get h
  rw [List.getElem?_map] at hd
  cases e : p[i]? with
  | none => rw [e] at hd; cases hd
  | some kv => rw [e] at hd; cases hd; exact ⟨kv, rfl, wd⟩
theorem y_dqT {p : Page} (h : H a = some (.tup xs)) (w : WtL K H xs (p.map pairD)) (hp : PageOk p)
    (turn : ∀ x kv H1 (N : Hp → Prop), Ex H H1 → Wt K H1 x (pairD kv) → ∀ ok : V → V → Hp → Prop, (∀ y z H4, Ex H1 H4 → Wt K H4 y (tkD kv.1) → Wt K H4 z kv.2 → ok y z H4) → g x (wipe σ vs) H1 fun σ2 H2 => wipe σ2 vs = wipe σ vs ∧ tt σ2 H2 fun b H3 => if b = true then tk σ2 H3 fun y H4 => tv σ2 H4 fun z H5 => ok y z H5 else N H3)
    (fin : ∀ D H', H D = none → Ex H H' → TabAt K D (putAll [] p) H' → Q (.ref D) H') : kDqT K g tt tk tv vs σ (.ref a) H Q := by
  refine ⟨a, rfl, ⟨xs, SqT.of h⟩, fun D nD => dq_tup (Qd := fun H' => Q (.ref D) H') (fun i H' => Ex H H' ∧ TabAt K D (putAll [] (p.take i)) H') ⟨Ex.new nD, [], upd_same, .nil⟩ (fun i H' _ p => SqT.of (p.1 _ _ h)) (fun i x H1 hx q => ?_) fun H' q => ?_⟩
  · obtain ⟨e1, kvs, hD, kv1⟩ := q
    obtain ⟨kv, hkv, wx⟩ := pair_at w hx
    have hm := List.mem_of_getElem? hkv
    have t0 : TabOk (putAll [] (p.take i)) := TabOk.nil.putAll (fun kv m => hp.ks kv (List.mem_of_mem_take m)) fun kv m => hp.vs kv (List.mem_of_mem_take m)
    refine turn x kv H1 _ e1 (wx.ex e1) _ fun y z H4 e4 wy wz => ?_
    obtain ⟨b, rfl, hb⟩ := key_at wy
    have hD4 := e4 _ _ hD
    have gg : Go [D] H4 (upd H4 D (.dT (putK kvs kv.1 z))) := Go.set hD4 (by intro _ z; cases z)
    have kv4 : KvL K H4 kvs (putAll [] (p.take i)) := kv1.go (S := []) e4.go t0.vs
    refine ⟨kvs, kv.1, b, rfl, hb, hD4, ?_, ex_of_go (e1.trans e4) nD gg, _, upd_same, ?_⟩
    · rw [kv1.len]
      exact Nat.lt_of_le_of_lt t0.len (by decide)
    · rw [take_snoc hkv, putAll_snoc]
      exact (kv4.put wz).go gg (t0.put (hp.ks kv hm) (hp.vs kv hm)).vs
  · rw [show xs.length = p.length from by rw [w.len, List.length_map], List.take_length] at q
    exact fin D H' nD q.1 q.2
end
/-! ### tuple([(key, pairs[key]) for key in sorted(pairs)]) -/
section
variable {K : PySem.W.Frag} {σ : L2.St} {H : Hp} {Q : VK}
abbrev tRows (K : PySem.W.Frag) (i j : Nat) : TE := tCB (rTuple K) (tCons (tLc (iList K (tCB rSortK (tCons (tVar j) tNil))) (gName i) tYes (tTup (tCons (tVar i) (tCons (tDGet (tVar j) (tVar i)) tNil))) [i]) tNil)
theorem sort_pairs {t : Page} (l : List KeyT) : (l.map fun k => (k, valP t k)).map pairD = l.map fun k => pairD (k, valP t k) := by rw [List.map_map]; rfl
theorem x_rows {i j : Nat} {D : Addr} {t : Page} (h : TabAt K D t H) (ht : TabOk t) (hj : σ[j]? = some (some (.ref D))) (e1 : ∀ x, ((wipe σ [i]).set i (some x))[i]? = some (some x)) (e2 : ∀ x, ((wipe σ [i]).set i (some x))[j]? = some (some (.ref D)))
    (e3 : ∀ x, wipe ((wipe σ [i]).set i (some x)) [i] = wipe σ [i]) (q : ∀ v H', Ex H H' → Wt K H' v (pageD (sortP t)) → Q v H') : tRows K i j σ H Q := by
  have hDn : H D ≠ none := by
    obtain ⟨kvs, e, _⟩ := h
    rw [e]; simp
  refine x_cb (x_cons (x_lcL (x_cb (x_cons (x_var hj (x_nil (x_sorted h ht fun p ws H1 ex1 n1 h1 w1 => ?_)))))))
  have hT1 : TabAt K D t H1 := by
    obtain ⟨kvs, e, kv⟩ := h
    exact ⟨kvs, ex1 _ _ e, kv.go (S := []) ex1.go ht.vs⟩
  have hlen := ht.len
  have hperm : (sortKs (t.map (·.1))).length = t.length := by rw [List.length_mergeSort, List.length_map]
  refine y_lcL [] (fun H' => TabAt K D t H') (fun n ds => ds = ((sortKs (t.map (·.1))).take n).map fun k => pairD (k, valP t k)) h1 (by simp) (by rw [w1.len, List.length_map, hperm]; omega) (by simp) (fun E Ha Hb nE gE hT => ?_) hT1 rfl (fun n x H2 ds hx g2 hT hds ok no hok hno => ?_) (fun E acc ds H2 nE g2 hT hE wd tt hds => ?_)
  · obtain ⟨kvs, e, kv⟩ := hT
    have : D ≠ E := fun z => by
      obtain ⟨kvs, e, kv⟩ := hT1
      rw [z, nE] at e; cases e
    exact ⟨kvs, gE.keep D _ (by simp [this]) e, kv.go gE ht.vs⟩
  · obtain ⟨d, hd, wd⟩ := w1.get hx
    rw [List.getElem?_map] at hd
    cases e : (sortKs (t.map (·.1)))[n]? with
    | none => rw [e] at hd; cases hd
    | some k =>
      rw [e] at hd
      cases hd
      have wx : Wt K H2 x (tkD k) := wd.ex g2.ex
      have hk : k ∈ t.map (·.1) := sortKs_mem.mp (List.mem_of_getElem? e)
      have hv : valOk (valP t k) = true := ht.vs _ (valP_mem hk)
      refine turn_name (e3 x) (x_tup (x_cons (x_var (e1 x) (x_cons (x_dget (x_var (e2 x) (x_var (e1 x) (x_kdgetT hT wx hk fun v wv => x_nil ?_))))))))
      refine x_mkt (.cons wx (.cons wv .nil)) fun u H3 e3 w3 => ?_
      obtain ⟨kvs, eD, kvD⟩ := hT
      refine hok _ (pairD (k, valP t k)) H3 e3.go ⟨kvs, e3 _ _ eD, kvD.go (S := []) e3.go ht.vs⟩ w3 (pairD_to (kv := (k, valP t k)) hv) ?_
      dsimp only
      rw [hds, take_snoc e]
      simp
  · rw [w1.len, List.length_map, List.take_length] at hds
    subst hds
    refine x_nil (x_tupl hE fun p3 H3 e3 n3 h3 => q _ H3 (ex1.trans (g2.ex.trans e3)) (.tup h3 ?_))
    have := wd.ex e3
    rw [← sort_pairs] at this
    exact this
/-- for pair in row: pairs[pair[0]] = pair[1], one turn at data -/
theorem tab_put {D : Addr} {t : Page} {k : KeyT} {d : PyData} {H' : Hp} (ht : TabOk t) (hk : k ∈ uni) (hv : valOk d = true) : TabOk (putP t k d) := ht.put hk hv
end
section
variable {P : Program} {w : World} {K : PySem.W.Frag} {mg : Str → Option Value} {base : Heap}
def spOver (K : PySem.W.Frag) : Sp := fun vs H Q _ => ∃ x y p r, vs = [x, y] ∧ Wt K H x (pageD p) ∧ Wt K H y (pageD r) ∧ PageOk p ∧ PageOk r ∧ ∀ v H', Ex H H' → Wt K H' v (pageD (over p r)) → Q v H'
abbrev s_laid_over : Stmt := top 20
abbrev nms_laid_over : List Str := ["page", "row", "pairs", "pair", "key"]
theorem sc_laid_over : FnScope nms_laid_over ["page", "row"] (defScope s_laid_over) := ⟨rfl, rfl, rfl, by decide +kernel, rfl, by decide +kernel, by decide +kernel⟩
theorem ok_laid_over {f : Addr} {fd : FuncData} (F : Fun K "laid_over" "laid_over" s_laid_over f fd) (hm : mg "laid_over" = some (.ref f)) (b : Binds K fd ["page", "row"] []) (T : Bt mg) : Cal P w K mg base 1 "laid_over" (spOver K) := by
  refine cal_of F hm b sc_laid_over (fun vs H Q E h => ?_) (fun cdv A outer s H vs Q E hr h => ?_)
  · obtain ⟨x, y, p, r, rfl, _⟩ := h
    rfl
  · obtain ⟨x, y, p, r, rfl, wx, wy, hp, hr2, q⟩ := h
    have hu64 := pass_hu64 hr
    have hu1 : (A.deeper (PyProof.Rows.envOfC "laid_over" (defScope s_laid_over) s.heap.objs.size f cdv)).units + 1 < cLine := by have := hr.un; omega
    have hu := hu64
    refine ⟨_, (pss_cons (ps_set (i := 2) sc_laid_over.nd rfl (by first | exact Or.inl rfl | exact Or.inr rfl) (pe_dq hu1 (own := [("pair", 3)]) rfl sc_laid_over.nd (pi_tup (pv 0)) (blkOk_by (N := nms_laid_over) (sc := defScope s_laid_over) (by decide +kernel)) (fun _ _ _ _ _ => (pg_name (i := 3) sc_laid_over.nd rfl (by first | exact Or.inl rfl | exact Or.inr rfl))) (fun _ _ _ _ _ => pts_nil) (fun _ _ _ _ _ => (pe_ix (oIxK K) (pv 3) pe_int (fun _ _ => rfl))) (fun _ _ _ _ _ => (pe_ix (oIxK K) (pv 3) pe_int (fun _ _ => rfl)))))
    (pss_cons (ps_for (passes_of rfl) rfl (pi_tup (pv 1)) (pg_name (i := 3) sc_laid_over.nd rfl (by first | exact Or.inl rfl | exact Or.inr rfl))
    (pss_one (ps_dput hu1 (pv 2) (pe_ix (oIxK K) (pv 3) pe_int (fun _ _ => rfl)) (pe_ix (oIxK K) (pv 3) pe_int (fun _ _ => rfl)) rfl)))
    (pss_one (ps_ret (pe_callTy cTuple (by rfl) T.tuple (by decide +kernel) (pa_cons (pe_lc (own := [("key", 4)]) rfl sc_laid_over.nd (pi_list (pe_callB (call_sortK rfl hu) (by rfl) T.sorted (by decide +kernel) (pa_cons (pv 2) pa_nil))) (blkOk_by (N := nms_laid_over) (sc := defScope s_laid_over) (by decide +kernel)) (fun _ _ _ _ _ => (pg_name (i := 4) sc_laid_over.nd rfl (by first | exact Or.inl rfl | exact Or.inr rfl))) (fun _ _ _ _ _ => pts_nil) (fun _ _ _ _ _ => (pe_tup (pa_cons (pv 4) (pa_cons (pe_dget hu1 (pv 2) (pv 4) (fun _ _ => rfl)) pa_nil))))) pa_nil)))))), ?_⟩
    try dsimp only [cxOf]
    have wx' := wx
    cases wx' with
    | @tup a xs _ ea wa =>
    have wy' := wy
    cases wy' with
    | @tup b ys _ eb wb =>
    walk_at "y"
    refine x_dqT ?_
    walk_at "y"
    refine y_dqT ea wa hp (fun x kv H1 N e1 wx ok hok => ?_) fun D H1 nD e1 hD => ?_
    · refine ⟨rfl, ?_⟩
      walk_at "y"
      refine x_ixd (n := 0) (d := tkD kv.1) wx rfl rfl fun u wu => ?_
      walk_at "y"
      refine x_ixd (n := 1) (d := kv.2) wx rfl rfl fun u2 wu2 => ?_
      exact hok _ _ _ (Ex.refl _) wu wu2
    · walk_at "y"
      have t0 : TabOk (putAll [] p) := TabOk.nil.putAll hp.ks hp.vs
      have nDy : ∀ i, TabOk (putAll (putAll [] p) (r.take i)) := fun i => t0.putAll (fun kv m => hr2.ks kv (List.mem_of_mem_take m)) fun kv m => hr2.vs kv (List.mem_of_mem_take m)
      refine y_forT (fun i σ H' => Ex H H' ∧ ∃ (o o2 : Option V), σ = [some (.ref a), some (.ref b), some (.ref D), o, o2] ∧ TabAt K D (putAll (putAll [] p) (r.take i)) H') (e1 _ _ eb) ⟨e1, _, _, rfl, hD⟩ (fun i σ H' p => p.1 _ _ eb) (fun i x σ H2 hx q2 => ?_) fun σ H2 q2 => ?_
      · obtain ⟨e2, o, o2, rfl, hT⟩ := q2
        obtain ⟨kv, hkv, wx⟩ := pair_at wb hx
        have hm := List.mem_of_getElem? hkv
        have wx := wx.ex e2
        walk_at "y"
        refine x_ixd (n := 1) (d := kv.2) wx rfl rfl fun u wu => ?_
        walk_at "y"
        refine x_ixd (n := 0) (d := tkD kv.1) wx rfl rfl fun u2 wu2 => ?_
        refine x_kdputT hT (nDy i) wu2 (hr2.ks kv hm) wu (hr2.vs kv hm) fun H3 g3 h3 => ?_
        refine ⟨ex_of_go e2 nD g3, _, _, rfl, ?_⟩
        rw [take_snoc hkv, putAll_snoc]
        exact h3
      · obtain ⟨e2, o, o2, rfl, hT⟩ := q2
        rw [show ys.length = r.length from by rw [wb.len, List.length_map], List.take_length] at hT
        have hok := nDy r.length
        rw [List.take_length] at hok
        show tRows K 4 2 _ H2 Q
        exact x_rows hT hok rfl (fun _ => rfl) (fun _ => rfl) (fun _ => rfl) fun v H3 e3 w3 => q v H3 (e2.trans e3) w3
end
end Y
/-! part B5 -/
/-! Entries, slots. -/
namespace Y
open PySem L2
local macro_rules | `(tactic| walk_at "y1") => `(tactic| (first
  | (with_reducible refine x_seq ?_) | (with_reducible refine x_asg ?_) | (with_reducible refine x_name ?_) | (with_reducible refine x_drop ?_) | (with_reducible refine x_ret ?_) | (with_reducible refine x_retN ?_)
  | (with_reducible refine x_next ?_) | (with_reducible refine x_brk ?_) | (with_reducible refine x_ifS ?_)
  | (with_reducible refine x_c ?_) | (with_reducible refine x_op ?_) | (with_reducible refine x_un ?_) | (with_reducible refine x_cb ?_) | (with_reducible refine x_cons ?_) | (with_reducible refine x_nil ?_)
  | (with_reducible refine x_call ?_) | (with_reducible refine x_tup ?_) | (with_reducible refine x_lst ?_) | (with_reducible refine x_sl ?_) | (with_reducible refine x_nopart ?_) | (with_reducible refine x_part ?_)
  | (with_reducible refine x_andV ?_) | (with_reducible refine x_orV ?_) | (with_reducible refine x_notV ?_) | (with_reducible refine x_if ?_) | (with_reducible refine x_test ?_) | (with_reducible refine x_tb ?_)
  | (with_reducible refine x_and ?_) | (with_reducible refine x_or ?_) | (with_reducible refine x_not ?_) | (with_reducible refine x_chain ?_) | (with_reducible refine x_exbl ?_) | (with_reducible refine x_exint ?_)
  | (with_reducible refine x_fld ?_) | (with_reducible refine x_sfld ?_) | (with_reducible refine x_par ?_) | (with_reducible refine x_par3 ?_) | (with_reducible refine x_dget ?_) | (with_reducible refine x_dput ?_)
  | (with_reducible refine x_bm ?_) | (with_reducible refine x_bm0 ?_) | (with_reducible refine x_pair ?_) | (with_reducible refine x_tri ?_) | (with_reducible refine x_int ?_) | (with_reducible refine x_intb ?_) | (with_reducible refine x_abs ?_) | (with_reducible refine x_isN ?_) | (with_reducible refine x_notN ?_) | (with_reducible refine x_meth ?_) | (with_reducible refine x_make ?_)
  | (with_reducible refine x_ite1 ?_) | (with_reducible refine x_ite0 ?_)
  | (with_reducible refine x_addi ?_) | (with_reducible refine x_neg ?_) | (with_reducible refine x_i0 ?_) | (with_reducible refine x_eqi ?_) | (with_reducible refine x_eqs ?_) | (with_reducible refine x_eqb ?_) | (with_reducible refine x_nei ?_) | (with_reducible refine x_lti ?_)
  | (with_reducible refine x_forL ?_) | (with_reducible refine x_forT ?_) | (with_reducible refine x_forR ?_) | (with_reducible refine x_forR2 ?_) | (with_reducible refine x_lcL ?_) | (with_reducible refine x_lcT ?_) | (with_reducible refine x_lcR ?_)
  | (with_reducible refine x_yes ?_) | (with_reducible refine x_pcons ?_) | (with_reducible refine x_pnil ?_) | (with_reducible refine x_gcons ?_) | (with_reducible refine x_gnil ?_) | (with_reducible refine x_gattr ?_) | (with_reducible refine x_raise ?_) | (with_reducible refine x_gsub ?_) | (with_reducible refine x_fldaug ?_) | (with_reducible refine x_radd ?_) | (with_reducible refine x_ipi ?_) | ((with_reducible refine x_aug (x := ?vv) ?hh ?qq); (case hh => exact rfl))
  | ((with_reducible refine x_iteA ?hc ?q); (case hc => exact rfl)) | ((with_reducible refine x_iteB ?hc ?q); (case hc => exact rfl))
  | ((with_reducible refine x_var (v := ?vv) ?hh ?qq); (case hh => exact rfl))
  | ((with_reducible refine r_isInt (d := ?dd) ?hh ?qq); (case hh => assumption)) | ((with_reducible refine r_isBool (d := ?dd) ?hh ?qq); (case hh => assumption)) | ((with_reducible refine r_isTup (d := ?dd) ?hh ?qq); (case hh => assumption))
  | ((with_reducible refine r_isStr (d := ?dd) ?hh ?qq); (case hh => assumption)) | ((with_reducible refine r_isLst (d := ?dd) ?hh ?qq); (case hh => assumption))))
local macro_rules | `(tactic| walk_at "y") => `(tactic| (repeat (walk_at "y1")))
section
variable {P : Program} {w : World} {K : PySem.W.Frag} {mg : Str → Option Value} {base : Heap}
def EntSide (d : PyData) : Prop := ∀ a b c p, d = .tuple [a, b, c, p] → PageSide p
def spEntry (K : PySem.W.Frag) : Sp := fun vs H Q _ => ∃ v d, vs = [v] ∧ Wt K H v d ∧ EntSide d ∧ ∀ H', Ex H H' → Q (.bl (isEntry d)) H'
theorem isEntry_not {d : PyData} (h : isTup d = false) : isEntry d = false := by
  cases d <;> first | rfl | simp [isTup] at h
theorem isEntry_len {ds : List PyData} (h : ds.length ≠ 4) : isEntry (.tuple ds) = false := by
  match ds with
  | [] => rfl
  | [_] => rfl
  | [_, _] => rfl
  | [_, _, _] => rfl
  | [_, _, _, _] => simp at h
  | _ :: _ :: _ :: _ :: _ :: _ => rfl
abbrev s_is_entry : Stmt := top 22
abbrev nms_is_entry : List Str := ["value", "part"]
theorem sc_is_entry : FnScope nms_is_entry ["value"] (defScope s_is_entry) := ⟨rfl, rfl, rfl, by decide +kernel, rfl, by decide +kernel, by decide +kernel⟩
theorem ok_is_entry {f : Addr} {fd : FuncData} (F : Fun K "is_entry" "is_entry" s_is_entry f fd) (hm : mg "is_entry" = some (.ref f)) (b : Binds K fd ["value"] []) (T : Bt mg) (c_is_number : Cal P w K mg base 1 "is_number" (spNum K)) (c_is_page : Cal P w K mg base 3 "is_page" (spPage K)) : Cal P w K mg base 4 "is_entry" (spEntry K) := by
  refine cal_of F hm b sc_is_entry (fun vs H Q E h => ?_) (fun cdv A outer s H vs Q E hr h => ?_)
  · obtain ⟨v, d, rfl, _⟩ := h
    rfl
  · obtain ⟨v, d, rfl, hv, sd, q⟩ := h
    have hu64 := pass_hu64 hr
    refine ⟨_, (pss_cons (ps_if (PW.pt (pw_or (pt_not (pt_val (pe_callB call_isi (by rfl) T.isinstance (by decide +kernel) (pa_cons (pv 0) (pa_cons (pe_bltn (v := .ty "tuple") (by rfl) T.tuple (by decide +kernel) rfl) pa_nil))))) (pw_or1 (pt_cmpR (oNeK K hu64) (pe_callB cLen (by rfl) T.len (by decide +kernel) (pa_cons (pv 0) pa_nil)) pe_int (nomark _)))))
    (pss_one (ps_ret pe_bl))
    pss_nil)
    (pss_one (ps_ret (pe_and (pe_callB (cr_all rfl) (by rfl) T.all (by decide +kernel) (pa_cons (pe_lc (own := [("part", 1)]) rfl sc_is_entry.nd (pi_tup (pe_slice (oSlK K) (pv 0) po_none (po_some pe_int))) (blkOk_by (N := nms_is_entry) (sc := defScope s_is_entry) (by decide +kernel)) (fun _ _ _ _ _ => (pg_name (i := 1) sc_is_entry.nd rfl (by first | exact Or.inl rfl | exact Or.inr rfl))) (fun _ _ _ _ _ => pts_nil) (fun _ _ _ _ _ => (pe_c c_is_number hr (by decide) (by rfl) (pa_cons (pv 1) pa_nil)))) pa_nil)) (pe_one (pe_c c_is_page hr (by decide) (by rfl) (pa_cons (pe_ix (oIxK K) (pv 0) pe_int (fun _ _ => rfl)) pa_nil))))))), ?_⟩
    try dsimp only [cxOf]
    cases et : isTup d with
    | false =>
      have q1 := q H (Ex.refl H)
      rw [isEntry_not et] at q1
      walk_at "y"
      rw [et]
      walk_at "y"
      exact q1
    | true =>
      obtain ⟨ds, rfl⟩ : ∃ ds, d = .tuple ds := by
        cases d with
        | tuple ds => exact ⟨ds, rfl⟩
        | _ => simp [isTup] at et
      walk_at "y"
      refine x_lend hv ?_
      walk_at "y"
      by_cases hl : ds.length = 4
      · obtain ⟨a, b, c, p, rfl⟩ : ∃ a b c p, ds = [a, b, c, p] := by
          match ds with
          | [a, b, c, p] => exact ⟨a, b, c, p, rfl⟩
          | [] => simp at hl
          | [_] => simp at hl
          | [_, _] => simp at hl
          | [_, _, _] => simp at hl
          | _ :: _ :: _ :: _ :: _ :: _ => simp at hl
        rw [show decide ((([a, b, c, p] : List PyData).length : Int) = 4) = true from rfl]
        walk_at "y"
        refine x_slt hv fun u1 H1 e1 w1 => ?_
        rw [show (3 : Int) = ((3 : Nat) : Int) from rfl, cut_to, show ([a, b, c, p] : List PyData).take 3 = [a, b, c] from rfl] at w1
        cases w1 with
        | @tup l xs _ ea wa =>
        refine y_lcT [] (fun _ => True) (fun i ds => ds = (([a, b, c].take i).map isNum).map .bool) ea (by rw [wa.len]; simp) (by simp) keeps_true trivial rfl (fun i x H2 ds hx g2 _ hds ok no hok hno => ?_) (fun E acc ds H2 nE g2 _ hE wd t hds => ?_)
        · refine turn_name rfl ?_
          obtain ⟨e, he, we⟩ := wa.get hx
          walk_at "y"
          refine x_num (we.ex g2.ex) ?_
          refine hok _ (.bool (isNum e)) H2 (Go.refl _ _) trivial (.bl _) rfl ?_
          dsimp only
          rw [hds, take_snoc he]
          simp
        · rw [wa.len, List.take_length] at hds
          subst hds
          have ex2 := e1.trans g2.ex
          walk_at "y"
          refine x_all hE wd ?_
          have q : ∀ H', Ex H H' → Q (.bl (isNum a && isNum b && isNum c && isPage p)) H' := q
          rw [show (([a, b, c].map isNum).all id) = (isNum a && isNum b && isNum c) from by simp [Bool.and_assoc]]
          cases hn : isNum a && isNum b && isNum c with
          | false =>
            rw [hn, Bool.false_and] at q
            walk_at "y"
            exact q H2 ex2
          | true =>
            rw [hn, Bool.true_and] at q
            walk_at "y"
            refine x_ixd (n := 3) (d := p) (hv.ex ex2) rfl rfl fun u3 wu3 => ?_
            refine ⟨u3, p, rfl, wu3, sd a b c p rfl, fun H3 e3 => ?_⟩
            exact q H3 (ex2.trans e3)
      · have q1 := q H (Ex.refl H)
        rw [isEntry_len hl] at q1
        rw [show decide ((ds.length : Int) = 4) = false from decide_eq_false (by omega)]
        walk_at "y"
        exact q1
/-! ### are_slots -/
structure SlotSide (d : PyData) : Prop where
  sh : isTup d = true ∨ SeqAt.shaped d = true
  en : EntSide d
theorem eqv_t0 (ds : List PyData) : PyData.eqv (.tuple ds) (.tuple []) = decide (ds.length = 0) := by cases ds <;> rfl
def areSlotsD : PyData → Bool
  | .list ds => isSize ds.length && ds.all slotFine
  | .tuple ds => isSize ds.length && ds.all slotFine
  | _ => false
def SlotsSide (d : PyData) : Prop := ∀ ds, (d = .list ds ∨ d = .tuple ds) → isSize ds.length = true → ∀ x ∈ ds, SlotSide x
def spSlots (K : PySem.W.Frag) : Sp := fun vs H Q _ => ∃ v d, vs = [v] ∧ Wt K H v d ∧ SlotsSide d ∧ ∀ H', Ex H H' → Q (.bl (areSlotsD d)) H'
abbrev s_are_slots : Stmt := top 23
abbrev nms_are_slots : List Str := ["value", "slot"]
theorem sc_are_slots : FnScope nms_are_slots ["value"] (defScope s_are_slots) := ⟨rfl, rfl, rfl, by decide +kernel, rfl, by decide +kernel, by decide +kernel⟩
theorem slot_eq {H : Hp} {x : V} {u : Addr} {e : PyData} {Q : VK} (h : Wt K H x e) (hu : H u = some (.tup [])) (s : isTup e = true ∨ SeqAt.shaped e = true) (q : Q (.bl (PyData.eqv e (.tuple []))) H) : rEqU K x (.ref u) H Q := by
  rcases s with s | s
  · cases h with
    | @tup a xs ds ea wa =>
      rw [eqv_t0] at q
      refine x_eqt0 ea hu ?_
      rw [wa.len]
      exact q
    | _ => cases s
  · exact x_eqd h (.tup hu .nil) s rfl q
theorem ok_are_slots {f : Addr} {fd : FuncData} (F : Fun K "are_slots" "are_slots" s_are_slots f fd) (hm : mg "are_slots" = some (.ref f)) (b : Binds K fd ["value"] []) (T : Bt mg) (c_is_row : Cal P w K mg base 1 "is_row" (spRow K)) (c_is_size : Cal P w K mg base 2 "is_size" (spSize K)) (c_is_entry : Cal P w K mg base 4 "is_entry" (spEntry K)) : Cal P w K mg base 5 "are_slots" (spSlots K) := by
  refine cal_of F hm b sc_are_slots (fun vs H Q E h => ?_) (fun cdv A outer s H vs Q E hr h => ?_)
  · obtain ⟨v, d, rfl, _⟩ := h
    rfl
  · obtain ⟨v, d, rfl, hv, sd, q⟩ := h
    have hu64 := pass_hu64 hr
    have oth : isRow d = false → areSlotsD d = false → ∃ t, PSs (cxOf (L2.CX P w) P w K mg base nms_are_slots "are_slots" (defScope s_are_slots) f cdv A outer s H E) (defBody s_are_slots) t ∧ t { nx := fun _ H' => Q .non H', rt := Q } (start nms_are_slots [v]) H := fun h1 h2 => by
      refine ⟨_, (pss_cons (ps_if (PW.pt (pw_or (pt_not (pt_val (pe_c c_is_row hr (by decide) (by rfl) (pa_cons (pv 0) pa_nil)))) (pw_or1 (pt_not (pt_val (pe_c c_is_size hr (by decide) (by rfl) (pa_cons (pe_callB cLen (by rfl) T.len (by decide +kernel) (pa_cons (pv 0) pa_nil)) pa_nil)))))))
    (pss_one (ps_ret pe_bl))
    pss_nil)
    (pss_one (ps_ret (pe_callB (cr_all rfl) (by rfl) T.all (by decide +kernel) (pa_cons (pe_lc (own := [("slot", 1)]) rfl sc_are_slots.nd (pi_list (pv 0)) (blkOk_by (N := nms_are_slots) (sc := defScope s_are_slots) (by decide +kernel)) (fun _ _ _ _ _ => (pg_name (i := 1) sc_are_slots.nd rfl (by first | exact Or.inl rfl | exact Or.inr rfl))) (fun _ _ _ _ _ => pts_nil) (fun _ _ _ _ _ => (pe_or (pe_cmpR (oEqK K hu64) (pv 1) (pe_tup pa_nil) (nomark _)) (pe_one (pe_c c_is_entry hr (by decide) (by rfl) (pa_cons (pv 1) pa_nil)))))) pa_nil))))), ?_⟩
      try dsimp only [cxOf]
      walk_at "y"
      refine x_row hv fun H1 e1 => ?_
      rw [h1]
      rw [h2] at q
      walk_at "y"
      exact q _ e1
    rcases d with _ | b | i | x | ds | ds | kv
    · exact oth rfl rfl
    · exact oth rfl rfl
    · exact oth rfl rfl
    · exact oth rfl rfl
    · cases hv with
      | @lst l xs _ ea0 wa0 =>
      refine ⟨_, (pss_cons (ps_if (PW.pt (pw_or (pt_not (pt_val (pe_c c_is_row hr (by decide) (by rfl) (pa_cons (pv 0) pa_nil)))) (pw_or1 (pt_not (pt_val (pe_c c_is_size hr (by decide) (by rfl) (pa_cons (pe_callB cLen (by rfl) T.len (by decide +kernel) (pa_cons (pv 0) pa_nil)) pa_nil)))))))
    (pss_one (ps_ret pe_bl))
    pss_nil)
    (pss_one (ps_ret (pe_callB (cr_all rfl) (by rfl) T.all (by decide +kernel) (pa_cons (pe_lc (own := [("slot", 1)]) rfl sc_are_slots.nd (pi_list (pv 0)) (blkOk_by (N := nms_are_slots) (sc := defScope s_are_slots) (by decide +kernel)) (fun _ _ _ _ _ => (pg_name (i := 1) sc_are_slots.nd rfl (by first | exact Or.inl rfl | exact Or.inr rfl))) (fun _ _ _ _ _ => pts_nil) (fun _ _ _ _ _ => (pe_or (pe_cmpR (oEqK K hu64) (pv 1) (pe_tup pa_nil) (nomark _)) (pe_one (pe_c c_is_entry hr (by decide) (by rfl) (pa_cons (pv 1) pa_nil)))))) pa_nil))))), ?_⟩
      try dsimp only [cxOf]
      walk_at "y"
      refine x_row (Wt.lst ea0 wa0) fun H1 e1 => ?_
      rw [show isRow (.list ds) = true from rfl]
      have ea := e1 _ _ ea0
      have wa := wa0.ex e1
      walk_at "y"
      refine x_lenl ea ?_
      rw [wa.len]
      refine ⟨_, .int (ds.length : Int), rfl, .int _, ?_⟩
      have q : ∀ H', Ex H H' → Q (.bl (isSize ds.length && ds.all slotFine)) H' := q
      rw [show isSizeD (.int (ds.length : Int)) = isSize ds.length from rfl]
      cases hz : isSize ds.length with
      | false =>
        rw [hz, Bool.false_and] at q
        walk_at "y"
        exact q _ e1
      | true =>
      rw [hz, Bool.true_and] at q
      have hs64 : ds.length ≤ 64 := by
        unfold isSize at hz
        simp only [Bool.and_eq_true, decide_eq_true_eq] at hz
        have := hz.1.2.2
        omega
      have sd := sd ds (.inl rfl) hz
      walk_at "y"
      refine y_lcL [] (fun _ => True) (fun i es => es = ((ds.take i).map slotFine).map .bool) ea (by simp) (by rw [wa.len]; omega) (by simp) keeps_true trivial rfl (fun i x H2 es hx g2 _ hds ok no hok hno => ?_) (fun E acc es H2 nE g2 _ hE wd t hds => ?_)
      · refine turn_name rfl ?_
        obtain ⟨e, he, we⟩ := wa.get hx
        have se := sd e (List.mem_of_getElem? he)
        have we := we.ex g2.ex
        walk_at "y"
        refine x_mkr fun u3 H3 e3 n3 h3 => ?_
        have hok : ∀ H4, Ex H2 H4 → ok (.bl (slotFine e)) H4 := fun H4 e4 => hok _ (.bool (slotFine e)) H4 e4.go trivial (.bl _) rfl (by
          dsimp only
          rw [hds, take_snoc he]
          simp)
        unfold slotFine at hok
        refine slot_eq (we.ex e3) h3 se.sh ?_
        cases heq : PyData.eqv e (.tuple []) with
        | true =>
          rw [heq, Bool.true_or] at hok
          walk_at "y"
          exact hok H3 e3
        | false =>
          rw [heq, Bool.false_or] at hok
          walk_at "y"
          exact ⟨x, e, rfl, we.ex e3, se.en, fun H4 e4 => hok H4 (e3.trans e4)⟩
      · rw [wa.len, List.take_length] at hds
        subst hds
        walk_at "y"
        refine x_all hE wd ?_
        rw [show ((ds.map slotFine).all id) = ds.all slotFine from by rw [List.all_map]; rfl]
        exact q H2 (e1.trans g2.ex)
    · cases hv with
      | @tup l xs _ ea0 wa0 =>
      refine ⟨_, (pss_cons (ps_if (PW.pt (pw_or (pt_not (pt_val (pe_c c_is_row hr (by decide) (by rfl) (pa_cons (pv 0) pa_nil)))) (pw_or1 (pt_not (pt_val (pe_c c_is_size hr (by decide) (by rfl) (pa_cons (pe_callB cLen (by rfl) T.len (by decide +kernel) (pa_cons (pv 0) pa_nil)) pa_nil)))))))
    (pss_one (ps_ret pe_bl))
    pss_nil)
    (pss_one (ps_ret (pe_callB (cr_all rfl) (by rfl) T.all (by decide +kernel) (pa_cons (pe_lc (own := [("slot", 1)]) rfl sc_are_slots.nd (pi_tup (pv 0)) (blkOk_by (N := nms_are_slots) (sc := defScope s_are_slots) (by decide +kernel)) (fun _ _ _ _ _ => (pg_name (i := 1) sc_are_slots.nd rfl (by first | exact Or.inl rfl | exact Or.inr rfl))) (fun _ _ _ _ _ => pts_nil) (fun _ _ _ _ _ => (pe_or (pe_cmpR (oEqK K hu64) (pv 1) (pe_tup pa_nil) (nomark _)) (pe_one (pe_c c_is_entry hr (by decide) (by rfl) (pa_cons (pv 1) pa_nil)))))) pa_nil))))), ?_⟩
      try dsimp only [cxOf]
      walk_at "y"
      refine x_row (Wt.tup ea0 wa0) fun H1 e1 => ?_
      rw [show isRow (.tuple ds) = true from rfl]
      have ea := e1 _ _ ea0
      have wa := wa0.ex e1
      walk_at "y"
      refine x_lent ea ?_
      rw [wa.len]
      refine ⟨_, .int (ds.length : Int), rfl, .int _, ?_⟩
      have q : ∀ H', Ex H H' → Q (.bl (isSize ds.length && ds.all slotFine)) H' := q
      rw [show isSizeD (.int (ds.length : Int)) = isSize ds.length from rfl]
      cases hz : isSize ds.length with
      | false =>
        rw [hz, Bool.false_and] at q
        walk_at "y"
        exact q _ e1
      | true =>
      rw [hz, Bool.true_and] at q
      have hs64 : ds.length ≤ 64 := by
        unfold isSize at hz
        simp only [Bool.and_eq_true, decide_eq_true_eq] at hz
        have := hz.1.2.2
        omega
      have sd := sd ds (.inr rfl) hz
      walk_at "y"
      refine y_lcT [] (fun _ => True) (fun i es => es = ((ds.take i).map slotFine).map .bool) ea (by rw [wa.len]; omega) (by simp) keeps_true trivial rfl (fun i x H2 es hx g2 _ hds ok no hok hno => ?_) (fun E acc es H2 nE g2 _ hE wd t hds => ?_)
      · refine turn_name rfl ?_
        obtain ⟨e, he, we⟩ := wa.get hx
        have se := sd e (List.mem_of_getElem? he)
        have we := we.ex g2.ex
        walk_at "y"
        refine x_mkr fun u3 H3 e3 n3 h3 => ?_
        have hok : ∀ H4, Ex H2 H4 → ok (.bl (slotFine e)) H4 := fun H4 e4 => hok _ (.bool (slotFine e)) H4 e4.go trivial (.bl _) rfl (by
          dsimp only
          rw [hds, take_snoc he]
          simp)
        unfold slotFine at hok
        refine slot_eq (we.ex e3) h3 se.sh ?_
        cases heq : PyData.eqv e (.tuple []) with
        | true =>
          rw [heq, Bool.true_or] at hok
          walk_at "y"
          exact hok H3 e3
        | false =>
          rw [heq, Bool.false_or] at hok
          walk_at "y"
          exact ⟨x, e, rfl, we.ex e3, se.en, fun H4 e4 => hok H4 (e3.trans e4)⟩
      · rw [wa.len, List.take_length] at hds
        subst hds
        walk_at "y"
        refine x_all hE wd ?_
        rw [show ((ds.map slotFine).all id) = ds.all slotFine from by rw [List.all_map]; rfl]
        exact q H2 (e1.trans g2.ex)
    · exact oth rfl rfl
/-- the slots of a good disk -/
theorem pageSide_ok {p : Page} (h : PageOk p) : PageSide (pageD p) := by
  intro ds e x hx
  cases e
  obtain ⟨kv, hm, rfl⟩ := List.mem_map.mp hx
  refine ⟨fun k y e => ?_⟩
  have e : PyData.tuple [tkD kv.1, kv.2] = .tuple [k, y] := e
  simp only [PyData.tuple.injEq, List.cons.injEq, and_true] at e
  obtain ⟨rfl, rfl⟩ := e
  exact ⟨key_lay (h.ks kv hm), Nat.le_trans (val_of (h.vs kv hm)).nd (by decide)⟩
theorem slotSide_ok {s : Slot} (h : SlotOk s) : SlotSide (slD s) := by
  refine ⟨.inr (lay_slot h).shaped, fun a b c p e => ?_⟩
  cases s with
  | none => cases e
  | some x =>
    have e : PyData.tuple [.int x.g, .int x.l, .int x.n, pageD x.p] = .tuple [a, b, c, p] := e
    simp only [PyData.tuple.injEq, List.cons.injEq, and_true] at e
    rw [← e.2.2.2]
    exact pageSide_ok (h x rfl)
theorem slots_fine {S : List Slot} (h : ∀ s ∈ S, SlotOk s) : (S.map slD).all slotFine = true := by
  rw [List.all_map]
  exact List.all_eq_true.mpr fun s m => slotFine_ok (h s m)
end
end Y
/-! part M1 -/
/-! Plain: what a half reads as. -/
namespace Y
open PySem L2
structure RdW (S : List Slot) (M b g last : Nat) (es : Nat → Entry) (pg : Nat → Page) : Prop where
  at_ : ∀ i, i ≤ last → S[b + i]? = some (some (es i))
  hg : ∀ i, i ≤ last → (es i).g = g
  hn : ∀ i, i ≤ last → (es i).n = i
  hl : ∀ i, i < last → (es i).l ≤ (es (i + 1)).l
  p0 : pg 0 = (es 0).p
  pS : ∀ i, i < last → pg (i + 1) = over (pg i) (es (i + 1)).p
  lt : last < M
  stop : last + 1 < M → ∀ e, S[b + (last + 1)]? = some (some e) → ¬ (e.g = g ∧ e.n = last + 1 ∧ (es last).l ≤ e.l)
def Rd (S : List Slot) (M b g last : Nat) (page : Page) : Prop := ∃ es pg, RdW S M b g last es pg ∧ pg last = page
def Hdl (S : List Slot) (b : Nat) : Prop := ∀ e, S[b]? = some (some e) → e.n ≠ 0
inductive RH (S : List Slot) (M b : Nat) : Option (Nat × Nat × Page) → Prop
  | none : Hdl S b → RH S M b none
  | some {g last : Nat} {page : Page} : Rd S M b g last page → RH S M b (some (g, last, page))
def rhD (half : Nat) : Option (Nat × Nat × Page) → PyData
  | none => .none
  | some (g, l, p) => .tuple [.int g, .int half, .int l, pageD p]
theorem RdW.page {S : List Slot} {M b g last : Nat} {es : Nat → Entry} {pg : Nat → Page} (r : RdW S M b g last es pg) (h : ∀ s ∈ S, SlotOk s) : ∀ i, i ≤ last → PageOk (pg i)
  | 0, hi => by
    rw [r.p0]
    exact h _ (List.mem_of_getElem? (r.at_ 0 hi)) _ rfl
  | i + 1, hi => by
    rw [r.pS i (by omega)]
    exact (r.page h i (by omega)).over (h _ (List.mem_of_getElem? (r.at_ (i + 1) hi)) _ rfl)
theorem Rd.page {S : List Slot} {M b g last : Nat} {page : Page} (r : Rd S M b g last page) (h : ∀ s ∈ S, SlotOk s) : PageOk page := by
  obtain ⟨es, pg, r, rfl⟩ := r
  exact r.page h last (Nat.le_refl _)
/-- which half is read -/
def pickH (r0 r1 : Option (Nat × Nat × Page)) : Option (Nat × Nat × Nat × Page) :=
  match r0, r1 with
  | none, none => none
  | none, some (g, l, p) => some (g, 1, l, p)
  | some (g, l, p), none => some (g, 0, l, p)
  | some (g, l, p), some (g', l', p') => if g < g' then some (g', 1, l', p') else some (g, 0, l, p)
def foundD : Option (Nat × Nat × Nat × Page) → PyData
  | none => .none
  | some (g, h, l, p) => .tuple [.int g, .int h, .int l, pageD p]
end Y
/-! part B6 -/
/-! Reading back. -/
namespace Y
open PySem L2
local macro_rules | `(tactic| walk_at "y1") => `(tactic| (first
  | (with_reducible refine x_seq ?_) | (with_reducible refine x_asg ?_) | (with_reducible refine x_name ?_) | (with_reducible refine x_drop ?_) | (with_reducible refine x_ret ?_) | (with_reducible refine x_retN ?_)
  | (with_reducible refine x_next ?_) | (with_reducible refine x_brk ?_) | (with_reducible refine x_ifS ?_)
  | (with_reducible refine x_c ?_) | (with_reducible refine x_op ?_) | (with_reducible refine x_un ?_) | (with_reducible refine x_cb ?_) | (with_reducible refine x_cons ?_) | (with_reducible refine x_nil ?_)
  | (with_reducible refine x_call ?_) | (with_reducible refine x_tup ?_) | (with_reducible refine x_lst ?_) | (with_reducible refine x_sl ?_) | (with_reducible refine x_nopart ?_) | (with_reducible refine x_part ?_)
  | (with_reducible refine x_andV ?_) | (with_reducible refine x_orV ?_) | (with_reducible refine x_notV ?_) | (with_reducible refine x_if ?_) | (with_reducible refine x_test ?_) | (with_reducible refine x_tb ?_)
  | (with_reducible refine x_and ?_) | (with_reducible refine x_or ?_) | (with_reducible refine x_not ?_) | (with_reducible refine x_chain ?_) | (with_reducible refine x_exbl ?_) | (with_reducible refine x_exint ?_)
  | (with_reducible refine x_fld ?_) | (with_reducible refine x_sfld ?_) | (with_reducible refine x_par ?_) | (with_reducible refine x_par3 ?_) | (with_reducible refine x_dget ?_) | (with_reducible refine x_dput ?_)
  | (with_reducible refine x_bm ?_) | (with_reducible refine x_bm0 ?_) | (with_reducible refine x_pair ?_) | (with_reducible refine x_tri ?_) | (with_reducible refine x_int ?_) | (with_reducible refine x_intb ?_) | (with_reducible refine x_abs ?_) | (with_reducible refine x_isN ?_) | (with_reducible refine x_notN ?_) | (with_reducible refine x_meth ?_) | (with_reducible refine x_make ?_)
  | (with_reducible refine x_ite1 ?_) | (with_reducible refine x_ite0 ?_)
  | (with_reducible refine x_addi ?_) | (with_reducible refine x_neg ?_) | (with_reducible refine x_i0 ?_) | (with_reducible refine x_eqi ?_) | (with_reducible refine x_eqs ?_) | (with_reducible refine x_eqb ?_) | (with_reducible refine x_nei ?_) | (with_reducible refine x_lti ?_)
  | (with_reducible refine x_forL ?_) | (with_reducible refine x_forT ?_) | (with_reducible refine x_forR ?_) | (with_reducible refine x_forR2 ?_) | (with_reducible refine x_lcL ?_) | (with_reducible refine x_lcT ?_) | (with_reducible refine x_lcR ?_)
  | (with_reducible refine x_yes ?_) | (with_reducible refine x_pcons ?_) | (with_reducible refine x_pnil ?_) | (with_reducible refine x_gcons ?_) | (with_reducible refine x_gnil ?_) | (with_reducible refine x_gattr ?_) | (with_reducible refine x_raise ?_) | (with_reducible refine x_gsub ?_) | (with_reducible refine x_fldaug ?_) | (with_reducible refine x_radd ?_) | (with_reducible refine x_ipi ?_) | ((with_reducible refine x_aug (x := ?vv) ?hh ?qq); (case hh => exact rfl))
  | ((with_reducible refine x_iteA ?hc ?q); (case hc => exact rfl)) | ((with_reducible refine x_iteB ?hc ?q); (case hc => exact rfl))
  | ((with_reducible refine x_var (v := ?vv) ?hh ?qq); (case hh => exact rfl))
  | ((with_reducible refine r_isInt (d := ?dd) ?hh ?qq); (case hh => assumption)) | ((with_reducible refine r_isBool (d := ?dd) ?hh ?qq); (case hh => assumption)) | ((with_reducible refine r_isTup (d := ?dd) ?hh ?qq); (case hh => assumption))
  | ((with_reducible refine r_isStr (d := ?dd) ?hh ?qq); (case hh => assumption)) | ((with_reducible refine r_isLst (d := ?dd) ?hh ?qq); (case hh => assumption))))
local macro_rules | `(tactic| walk_at "y") => `(tactic| (repeat (walk_at "y1")))
def SeqD (K : PySem.W.Frag) (H : Hp) (x : V) (ds : List PyData) : Prop := Wt K H x (.list ds) ∨ Wt K H x (.tuple ds)
theorem SeqD.ex {K : PySem.W.Frag} {H H' : Hp} {x : V} {ds : List PyData} (h : SeqD K H x ds) (e : Ex H H') : SeqD K H' x ds := h.imp (·.ex e) (·.ex e)
theorem x_lenD {K : PySem.W.Frag} {H : Hp} {Q : VK} {x : V} {ds : List PyData} (h : SeqD K H x ds) (q : Q (.int (ds.length : Int)) H) : rLen K [x] H Q := h.elim (fun h => x_lendl h q) fun h => x_lend h q
theorem x_ixD {K : PySem.W.Frag} {H : Hp} {Q : VK} {x : V} {ds : List PyData} {i : Int} {n : Nat} {d : PyData} (h : SeqD K H x ds) (hi : i = (n : Int)) (hd : ds[n]? = some d) (q : ∀ v, Wt K H v d → Q v H) : rIxU K x (.int i) H Q := h.elim (fun h => x_ixdl h hi hd q) fun h => x_ixd h hi hd q
section
variable {P : Program} {w : World} {K : PySem.W.Frag} {mg : Str → Option Value} {base : Heap}
def spHalf (K : PySem.W.Frag) : Sp := fun vs H Q _ => ∃ v S half M r, vs = [v, .int ((half : Nat) : Int)] ∧ SeqD K H v (S.map slD) ∧ S.length = 2 * M ∧ half ≤ 1 ∧ 2 ≤ M ∧ M ≤ 32 ∧ (∀ s ∈ S, SlotOk s) ∧ RH S M (half * M) r ∧ ∀ u H', Ex H H' → Wt K H' u (rhD half r) → Q u H'
theorem slot_at {S : List Slot} {i : Nat} {s : Slot} (h : S[i]? = some s) : (S.map slD)[i]? = some (slD s) := by rw [List.getElem?_map, h]; rfl
abbrev s_read_half : Stmt := top 24
abbrev nms_read_half : List Str := ["slots", "half", "size", "base", "head", "page", "last", "ahead", "entry"]
theorem sc_read_half : FnScope nms_read_half ["slots", "half"] (defScope s_read_half) := ⟨rfl, rfl, rfl, by decide +kernel, rfl, by decide +kernel, by decide +kernel⟩
theorem ok_read_half {f : Addr} {fd : FuncData} (F : Fun K "read_half" "read_half" s_read_half f fd) (hm : mg "read_half" = some (.ref f)) (b : Binds K fd ["slots", "half"] []) (T : Bt mg) (c_laid_over : Cal P w K mg base 1 "laid_over" (spOver K)) : Cal P w K mg base 2 "read_half" (spHalf K) := by
  refine cal_of F hm b sc_read_half (fun vs H Q E h => ?_) (fun cdv A outer s H vs Q E hr h => ?_)
  · obtain ⟨v, S, half, M, r, rfl, _⟩ := h
    rfl
  · obtain ⟨v, S, half, M, r, rfl, hv, hS, hh, m1, m2, so, rh, q⟩ := h
    have hu64 := pass_hu64 hr
    refine ⟨_, (pss_cons (ps_set (i := 2) sc_read_half.nd rfl (by first | exact Or.inl rfl | exact Or.inr rfl) (pe_op op_fdivN (pe_callB cLen (by rfl) T.len (by decide +kernel) (pa_cons (pv 0) pa_nil)) pe_int))
    (pss_cons (ps_set (i := 3) sc_read_half.nd rfl (by first | exact Or.inl rfl | exact Or.inr rfl) (pe_op oMul (pv 1) (pv 2)))
    (pss_cons (ps_set (i := 4) sc_read_half.nd rfl (by first | exact Or.inl rfl | exact Or.inr rfl) (pe_ix (oIxK K) (pv 0) (pv 3) (fun _ _ => rfl)))
    (pss_cons (ps_if (PW.pt (pw_or (pt_cmpR (oEqK K hu64) (pv 4) (pe_tup pa_nil) (nomark _)) (pw_or1 (pt_cmpR (oNeK K hu64) (pe_ix (oIxK K) (pv 4) pe_int (fun _ _ => rfl)) pe_int (nomark _)))))
    (pss_one (ps_ret pe_non))
    pss_nil)
    (pss_cons (ps_set (i := 5) sc_read_half.nd rfl (by first | exact Or.inl rfl | exact Or.inr rfl) (pe_ix (oIxK K) (pv 4) pe_int (fun _ _ => rfl)))
    (pss_cons (ps_set (i := 6) sc_read_half.nd rfl (by first | exact Or.inl rfl | exact Or.inr rfl) pe_int)
    (pss_cons (ps_while (passes_of rfl) (pt_cmpR (oLtK K hu64) (pe_op (oAddK K) (pv 6) pe_int) (pv 2) (nomark _))
    (pss_cons (ps_par rfl sc_read_half.nd (i := 7) (j := 8) rfl rfl (by decide) rfl rfl (pa_cons (pe_ix (oIxK K) (pv 0) (pe_op (oAddK K) (pv 3) (pv 6)) (fun _ _ => rfl)) (pa_cons (pe_ix (oIxK K) (pv 0) (pe_op (oAddK K) (pe_op (oAddK K) (pv 3) (pv 6)) pe_int) (fun _ _ => rfl)) pa_nil)) (by rfl))
    (pss_cons (ps_if (PW.pt (pw_or (pt_cmpR (oEqK K hu64) (pv 8) (pe_tup pa_nil) (nomark _)) (pw_or (pt_cmpR (oNeK K hu64) (pe_ix (oIxK K) (pv 8) pe_int (fun _ _ => rfl)) (pe_ix (oIxK K) (pv 4) pe_int (fun _ _ => rfl)) (nomark _)) (pw_or (pt_cmpR (oNeK K hu64) (pe_ix (oIxK K) (pv 8) pe_int (fun _ _ => rfl)) (pe_op (oAddK K) (pv 6) pe_int) (nomark _)) (pw_or1 (pt_cmpR (oLtK K hu64) (pe_ix (oIxK K) (pv 8) pe_int (fun _ _ => rfl)) (pe_ix (oIxK K) (pv 7) pe_int (fun _ _ => rfl)) (nomark _)))))))
    (pss_one ps_break)
    pss_nil)
    (pss_cons (ps_aug (i := 6) sc_read_half.nd rfl (by first | exact Or.inl rfl | exact Or.inr rfl) pe_int ip_add)
    (pss_one (ps_set (i := 5) sc_read_half.nd rfl (by first | exact Or.inl rfl | exact Or.inr rfl) (pe_c c_laid_over hr (by decide) (by rfl) (pa_cons (pv 5) (pa_cons (pe_ix (oIxK K) (pv 8) pe_int (fun _ _ => rfl)) pa_nil)))))))))
    (pss_one (ps_ret (pe_tup (pa_cons (pe_ix (oIxK K) (pv 4) pe_int (fun _ _ => rfl)) (pa_cons (pv 1) (pa_cons (pv 6) (pa_cons (pv 5) pa_nil)))))))))))))), ?_⟩
    try dsimp only [cxOf]
    walk_at "y"
    refine x_lenD hv ?_
    walk_at "y"
    refine x_iC (cdiv2 _) ?_
    rw [List.length_map, hS, fdiv2, show 2 * M / 2 = M by omega]
    walk_at "y"
    refine x_muli (cmulR _ (by omega)) ?_
    rw [show ((half : Int) * (M : Int)) = ((half * M : Nat) : Int) from by push_cast; rfl]
    walk_at "y"
    have hb : half * M < S.length := by
      rw [hS]
      have : half * M ≤ 1 * M := Nat.mul_le_mul_right _ hh
      omega
    generalize hbb : half * M = bb at *
    obtain ⟨s0, hs0⟩ : ∃ s0, S[bb]? = some s0 := ⟨_, List.getElem?_eq_getElem hb⟩
    refine x_ixD hv rfl (slot_at hs0) fun hd whd => ?_
    walk_at "y"
    refine x_mkt (K := K) .nil fun u1 H1 e1 w1 => ?_
    have sok : SlotOk s0 := so s0 (List.mem_of_getElem? hs0)
    refine x_eqd (whd.ex e1) w1 (lay_slot sok).shaped rfl ?_
    cases s0 with
    | none =>
      rw [show PyData.eqv (slD none) (.tuple []) = true from rfl]
      walk_at "y"
      have hr0 : r = none := by
        cases rh with
        | none => rfl
        | some h =>
          obtain ⟨es, pg, h, _⟩ := h
          have := h.at_ 0 (Nat.zero_le _)
          rw [Nat.add_zero, hs0] at this
          cases this
      subst hr0
      exact q _ _ e1 .non
    | some e0 =>
      rw [show PyData.eqv (slD (some e0)) (.tuple []) = false from rfl]
      walk_at "y"
      have whd1 := whd.ex e1
      refine x_ixd (n := 2) (d := .int (e0.n : Int)) whd1 rfl rfl fun u2 wu2 => ?_
      cases wu2
      walk_at "y"
      cases rh with
      | none hh0 =>
        have hn0 := hh0 e0 hs0
        rw [show decide ((e0.n : Int) = 0) = false from decide_eq_false (by omega)]
        walk_at "y"
        exact q _ _ e1 .non
      | @some g last page rd =>
        obtain ⟨es, pg, rd, hpg⟩ := rd
        have h0 := rd.at_ 0 (Nat.zero_le _)
        rw [Nat.add_zero, hs0] at h0
        cases h0
        rw [show decide (((es 0).n : Int) = 0) = true from decide_eq_true (by rw [rd.hn 0 (Nat.zero_le _)]; rfl)]
        walk_at "y"
        refine x_ixd (n := 3) (d := pageD (es 0).p) whd1 rfl rfl fun u3 wu3 => ?_
        walk_at "y"
        have hok : ∀ i, i ≤ last → PageOk (pg i) := rd.page so
        refine y_while (fun m σ H' => Ex H1 H' ∧ ∃ (i : Nat) (pv : V) (oa oe : Option V), m = M - i ∧ i ≤ last ∧ σ = [some v, some (.int (half : Int)), some (.int (M : Int)), some (.int (bb : Int)), some hd, some pv, some (.int (i : Int)), oa, oe] ∧ Wt K H' pv (pageD (pg i))) M ⟨Ex.refl _, 0, u3, _, _, rfl, Nat.zero_le _, rfl, by rw [rd.p0]; exact wu3⟩ (fun m σ H2 p => ?_)
        obtain ⟨e2, i, pv, oa, oe, rfl, hi, rfl, wp⟩ := p
        walk_at "y"
        have hlt := rd.lt
        have whd2 : Wt K H2 hd (entD (es 0)) := whd1.ex e2
        -- the end
        have fin : ∀ (σ : L2.St) H3, Ex H2 H3 → i = last → σ[1]? = some (some (.int (half : Int))) → σ[6]? = some (some (.int (i : Int))) → σ[5]? = some (some pv) → rIxU K hd (.int 0) H3 fun x H1 => tCons (tVar 1) (tCons (tVar 6) (tCons (tVar 5) tNil)) σ H1 fun xs H2 => mkT (x :: xs) H2 Q := fun σ H3 e3 hil z1 z2 z3 => by
          subst hil
          refine x_ixd (n := 0) (d := .int ((es 0).g : Int)) (whd2.ex e3) rfl rfl fun u4 wu4 => ?_
          cases wu4
          refine x_cons (x_var z1 (x_cons (x_var z2 (x_cons (x_var z3 (x_nil ?_))))))
          refine x_mkt (.cons (.int _) (.cons (.int _) (.cons (.int _) (.cons (wp.ex e3) .nil)))) fun u5 H5 e5 w5 => ?_
          rw [rd.hg 0 (Nat.zero_le _), hpg] at w5
          exact q u5 H5 (e1.trans (e2.trans (e3.trans e5))) w5
        by_cases hM : i + 1 < M
        · rw [show decide ((i : Int) + 1 < M) = true from decide_eq_true (by omega)]
          refine x_ite1 ⟨_, fun _ _ h => h, ?_⟩
          have hv2 := hv.ex (e1.trans e2)
          walk_at "y"
          refine x_ixD hv2 (n := bb + i) (by omega) (slot_at (rd.at_ i hi)) fun ua wa => ?_
          have hb2 : bb + (i + 1) < S.length := by
            have : half * M ≤ 1 * M := Nat.mul_le_mul_right _ hh
            omega
          obtain ⟨s1, hs1⟩ : ∃ s1, S[bb + (i + 1)]? = some s1 := ⟨_, List.getElem?_eq_getElem hb2⟩
          have sok1 : SlotOk s1 := so s1 (List.mem_of_getElem? hs1)
          walk_at "y"
          refine x_ixD hv2 (n := bb + (i + 1)) (by omega) (slot_at hs1) fun ue we => ?_
          walk_at "y"
          refine x_mkt (K := K) .nil fun u6 H3 e3 w6 => ?_
          refine x_eqd (we.ex e3) w6 (lay_slot sok1).shaped rfl ?_
          have stop : (∀ e, s1 = some e → ¬ (e.g = g ∧ e.n = i + 1 ∧ (es i).l ≤ e.l)) → i = last := fun hno => by
            rcases Nat.lt_or_eq_of_le hi with hlt2 | h
            · have h1 := rd.at_ (i + 1) hlt2
              rw [hs1] at h1
              cases h1
              exact absurd ⟨rd.hg _ hlt2, rd.hn _ hlt2, rd.hl i hlt2⟩ (hno _ rfl)
            · exact h
          cases s1 with
          | none =>
            rw [show PyData.eqv (slD none) (.tuple []) = true from rfl]
            walk_at "y"
            exact fin _ H3 e3 (stop (fun _ z => by cases z)) rfl rfl rfl
          | some e =>
            rw [show PyData.eqv (slD (some e)) (.tuple []) = false from rfl]
            have we3 : Wt K H3 ue (entD e) := we.ex e3
            have wa3 : Wt K H3 ua (entD (es i)) := wa.ex e3
            walk_at "y"
            refine x_ixd (n := 0) (d := .int (e.g : Int)) we3 rfl rfl fun u7 w7 => ?_
            cases w7
            walk_at "y"
            refine x_ixd (n := 0) (d := .int ((es 0).g : Int)) (whd2.ex e3) rfl rfl fun u8 w8 => ?_
            cases w8
            walk_at "y"
            rw [rd.hg 0 (Nat.zero_le _)]
            by_cases c1 : e.g = g
            · rw [show decide ((e.g : Int) = g) = true from decide_eq_true (by omega)]
              walk_at "y"
              refine x_ixd (n := 2) (d := .int (e.n : Int)) we3 rfl rfl fun u9 w9 => ?_
              cases w9
              walk_at "y"
              by_cases c2 : e.n = i + 1
              · rw [show decide ((e.n : Int) = (i : Int) + 1) = true from decide_eq_true (by omega)]
                walk_at "y"
                refine x_ixd (n := 1) (d := .int (e.l : Int)) we3 rfl rfl fun u10 w10 => ?_
                cases w10
                walk_at "y"
                refine x_ixd (n := 1) (d := .int ((es i).l : Int)) wa3 rfl rfl fun u11 w11 => ?_
                cases w11
                refine .inl ?_
                walk_at "y"
                by_cases c3 : (es i).l ≤ e.l
                · rw [show decide ((e.l : Int) < (es i).l) = false from decide_eq_false (by omega)]
                  have hil : i < last := by
                    rcases Nat.lt_or_eq_of_le hi with h | h
                    · exact h
                    · subst h
                      exact absurd ⟨c1, c2, c3⟩ (rd.stop hM e hs1)
                  have he : es (i + 1) = e := by
                    have h1 := rd.at_ (i + 1) hil
                    rw [hs1] at h1
                    cases h1
                    rfl
                  walk_at "y"
                  refine x_ixd (n := 3) (d := pageD e.p) we3 rfl rfl fun u12 w12 => ?_
                  walk_at "y"
                  refine ⟨pv, u12, pg i, e.p, rfl, wp.ex e3, w12, hok i hi, sok1 e rfl, fun u13 H4 e4 w13 => ?_⟩
                  walk_at "y"
                  refine ⟨M - (i + 1), by omega, e2.trans (e3.trans e4), i + 1, u13, _, _, rfl, hil, by rw [show ((i : Int) + 1) = ((i + 1 : Nat) : Int) from by omega]; rfl, ?_⟩
                  rw [rd.pS i hil, he]
                  exact w13
                · rw [show decide ((e.l : Int) < (es i).l) = true from decide_eq_true (by omega)]
                  walk_at "y"
                  exact fin _ H3 e3 (stop fun e' z h => by cases z; exact c3 h.2.2) rfl rfl rfl
              · rw [show decide ((e.n : Int) = (i : Int) + 1) = false from decide_eq_false (by omega)]
                walk_at "y"
                exact fin _ H3 e3 (stop fun e' z h => by cases z; exact c2 h.2.1) rfl rfl rfl
            · rw [show decide ((e.g : Int) = g) = false from decide_eq_false (by omega)]
              walk_at "y"
              exact fin _ H3 e3 (stop fun e' z h => by cases z; exact c1 h.1) rfl rfl rfl
        · rw [show decide ((i : Int) + 1 < M) = false from decide_eq_false (by omega)]
          refine x_ite0 ?_
          walk_at "y"
          exact fin _ H2 (Ex.refl _) (by omega) rfl rfl rfl
end
end Y
/-! part B7 -/
/-! Reading back, both halves. -/
namespace Y
open PySem L2
local macro_rules | `(tactic| walk_at "y1") => `(tactic| (first
  | (with_reducible refine x_seq ?_) | (with_reducible refine x_asg ?_) | (with_reducible refine x_name ?_) | (with_reducible refine x_drop ?_) | (with_reducible refine x_ret ?_) | (with_reducible refine x_retN ?_)
  | (with_reducible refine x_next ?_) | (with_reducible refine x_brk ?_) | (with_reducible refine x_ifS ?_)
  | (with_reducible refine x_c ?_) | (with_reducible refine x_op ?_) | (with_reducible refine x_un ?_) | (with_reducible refine x_cb ?_) | (with_reducible refine x_cons ?_) | (with_reducible refine x_nil ?_)
  | (with_reducible refine x_call ?_) | (with_reducible refine x_tup ?_) | (with_reducible refine x_lst ?_) | (with_reducible refine x_sl ?_) | (with_reducible refine x_nopart ?_) | (with_reducible refine x_part ?_)
  | (with_reducible refine x_andV ?_) | (with_reducible refine x_orV ?_) | (with_reducible refine x_notV ?_) | (with_reducible refine x_if ?_) | (with_reducible refine x_test ?_) | (with_reducible refine x_tb ?_)
  | (with_reducible refine x_and ?_) | (with_reducible refine x_or ?_) | (with_reducible refine x_not ?_) | (with_reducible refine x_chain ?_) | (with_reducible refine x_exbl ?_) | (with_reducible refine x_exint ?_)
  | (with_reducible refine x_fld ?_) | (with_reducible refine x_sfld ?_) | (with_reducible refine x_par ?_) | (with_reducible refine x_par3 ?_) | (with_reducible refine x_dget ?_) | (with_reducible refine x_dput ?_)
  | (with_reducible refine x_bm ?_) | (with_reducible refine x_bm0 ?_) | (with_reducible refine x_pair ?_) | (with_reducible refine x_tri ?_) | (with_reducible refine x_int ?_) | (with_reducible refine x_intb ?_) | (with_reducible refine x_abs ?_) | (with_reducible refine x_isN ?_) | (with_reducible refine x_notN ?_) | (with_reducible refine x_meth ?_) | (with_reducible refine x_make ?_)
  | (with_reducible refine x_ite1 ?_) | (with_reducible refine x_ite0 ?_)
  | (with_reducible refine x_addi ?_) | (with_reducible refine x_neg ?_) | (with_reducible refine x_i0 ?_) | (with_reducible refine x_eqi ?_) | (with_reducible refine x_eqs ?_) | (with_reducible refine x_eqb ?_) | (with_reducible refine x_nei ?_) | (with_reducible refine x_lti ?_)
  | (with_reducible refine x_forL ?_) | (with_reducible refine x_forT ?_) | (with_reducible refine x_forR ?_) | (with_reducible refine x_forR2 ?_) | (with_reducible refine x_lcL ?_) | (with_reducible refine x_lcT ?_) | (with_reducible refine x_lcR ?_)
  | (with_reducible refine x_yes ?_) | (with_reducible refine x_pcons ?_) | (with_reducible refine x_pnil ?_) | (with_reducible refine x_gcons ?_) | (with_reducible refine x_gnil ?_) | (with_reducible refine x_gattr ?_) | (with_reducible refine x_raise ?_) | (with_reducible refine x_gsub ?_) | (with_reducible refine x_fldaug ?_) | (with_reducible refine x_radd ?_) | (with_reducible refine x_ipi ?_) | ((with_reducible refine x_aug (x := ?vv) ?hh ?qq); (case hh => exact rfl))
  | ((with_reducible refine x_iteA ?hc ?q); (case hc => exact rfl)) | ((with_reducible refine x_iteB ?hc ?q); (case hc => exact rfl))
  | ((with_reducible refine x_var (v := ?vv) ?hh ?qq); (case hh => exact rfl))
  | ((with_reducible refine r_isInt (d := ?dd) ?hh ?qq); (case hh => assumption)) | ((with_reducible refine r_isBool (d := ?dd) ?hh ?qq); (case hh => assumption)) | ((with_reducible refine r_isTup (d := ?dd) ?hh ?qq); (case hh => assumption))
  | ((with_reducible refine r_isStr (d := ?dd) ?hh ?qq); (case hh => assumption)) | ((with_reducible refine r_isLst (d := ?dd) ?hh ?qq); (case hh => assumption))))
local macro_rules | `(tactic| walk_at "y") => `(tactic| (repeat (walk_at "y1")))
section
variable {P : Program} {w : World} {K : PySem.W.Frag} {mg : Str → Option Value} {base : Heap}
theorem rhD_to {S : List Slot} {M b half : Nat} {r : Option (Nat × Nat × Page)} (h : RH S M b r) (so : ∀ s ∈ S, SlotOk s) : tupOnly (rhD half r) = true := by
  cases h with
  | none => rfl
  | some rd =>
    have := (lay_page (rd.page so)).to
    show (true && (true && (true && (tupOnly (pageD _) && true)))) = true
    rw [this]
    rfl
def spRead (P : Program) (K : PySem.W.Frag) (mg : Str → Option Value) (ER : Ers P K mg) : Sp := fun vs H Q E => (∃ v d, vs = [v] ∧ Wt K H v d ∧ SlotsSide d ∧ areSlotsD d = false ∧ Errs E ER.cD (-1) H) ∨
  ∃ v S M r0 r1, vs = [v] ∧ SeqD K H v (S.map slD) ∧ S.length = 2 * M ∧ 2 ≤ M ∧ M ≤ 32 ∧ (∀ s ∈ S, SlotOk s) ∧ RH S M 0 r0 ∧ RH S M M r1 ∧ ∀ u H', Ex H H' → Wt K H' u (foundD (pickH r0 r1)) → Q u H'
theorem slots_are {S : List Slot} {M : Nat} (hS : S.length = 2 * M) (m1 : 2 ≤ M) (m2 : M ≤ 32) (so : ∀ s ∈ S, SlotOk s) : (isSize ((S.map slD).length : Int) && (S.map slD).all slotFine) = true := by
  rw [slots_fine so, List.length_map, hS, sizeOk_is ⟨by omega, by omega, by omega⟩]
  rfl
theorem seq_are {H : Hp} {v : V} {S : List Slot} {M : Nat} (h : SeqD K H v (S.map slD)) (hS : S.length = 2 * M) (m1 : 2 ≤ M) (m2 : M ≤ 32) (so : ∀ s ∈ S, SlotOk s) : ∃ d, Wt K H v d ∧ SlotsSide d ∧ areSlotsD d = true := by
  have sd : ∀ x ∈ S.map slD, SlotSide x := fun d hd => by
    obtain ⟨s, hs, rfl⟩ := List.mem_map.mp hd
    exact slotSide_ok (so s hs)
  have ar := slots_are hS m1 m2 so
  rcases h with h | h
  · exact ⟨_, h, fun ds hd _ => by rcases hd with hd | hd <;> cases hd; exact sd, ar⟩
  · exact ⟨_, h, fun ds hd _ => by rcases hd with hd | hd <;> cases hd; exact sd, ar⟩
theorem isTrue_dec {p : Prop} [Decidable p] (h : p) : decide p = true := decide_eq_true h
abbrev s_read_back : Stmt := top 25
abbrev nms_read_back : List Str := ["slots", "found", "half"]
theorem sc_read_back : FnScope nms_read_back ["slots"] (defScope s_read_back) := ⟨rfl, rfl, rfl, by decide +kernel, rfl, by decide +kernel, by decide +kernel⟩
theorem ok_read_back {f : Addr} {fd : FuncData} (F : Fun K "read_back" "read_back" s_read_back f fd) (hm : mg "read_back" = some (.ref f)) (b : Binds K fd ["slots"] []) (T : Bt mg) (ER : Ers P K mg) (c_are_slots : Cal P w K mg base 5 "are_slots" (spSlots K)) (c_read_half : Cal P w K mg base 2 "read_half" (spHalf K)) : Cal P w K mg base 6 "read_back" (spRead P K mg ER) := by
  refine cal_of F hm b sc_read_back (fun vs H Q E h => ?_) (fun cdv A outer s H vs Q E hr h => ?_)
  · rcases h with ⟨v, d, rfl, _⟩ | ⟨v, S, M, r0, r1, rfl, _⟩ <;> rfl
  · have hu64 := pass_hu64 hr
    rcases h with ⟨v, d, rfl, wv, sd, hn, hE⟩ | ⟨v, S, M, r0, r1, rfl, hv, hS, m1, m2, so, h0, h1, q⟩
    · skip
      refine ⟨_, (pss_cons (ps_if (pt_not (pt_val (pe_c c_are_slots hr (by decide) (by rfl) (pa_cons (pv 0) pa_nil))))
    (pss_one (ps_raiseErr rfl ER.InvalidDisk hr (takes_of rfl rfl rfl rfl) (pa_cons (pe_un un_neg pe_int) pa_nil)))
    pss_nil)
    (pss_cons (ps_setLc (i := 1) (own := [("half", 2)]) rfl sc_read_back.nd rfl rfl (sw_true rfl rfl rfl (by decide +kernel)) (pi_range1 (by rfl) T.range (pa_cons pe_int pa_nil)) (blkOk_by (N := nms_read_back) (sc := defScope s_read_back) (by decide +kernel)) (fun _ _ _ _ _ => (pg_name (i := 2) sc_read_back.nd rfl (by first | exact Or.inl rfl | exact Or.inr rfl))) (fun _ _ _ _ _ => pts_nil) (fun _ _ _ _ _ => (pe_c c_read_half hr (by decide) (by rfl) (pa_cons (pv 0) (pa_cons (pv 2) pa_nil)))))
    (pss_cons (ps_if (PW.pt (pw_or (pt_cmpR op_isN1 (pe_ix (oIxK K) (pv 1) pe_int (fun _ _ => rfl)) pe_non (nomark _)) (pw_or1 (PW.pt (pw_and (pt_cmpR op_notN1 (pe_ix (oIxK K) (pv 1) pe_int (fun _ _ => rfl)) pe_non (nomark _)) (pw_and1 (pt_cmpR op_gt (pe_ix (oIxK K) (pe_ix (oIxK K) (pv 1) pe_int (fun _ _ => rfl)) pe_int (fun _ _ => rfl)) (pe_ix (oIxK K) (pe_ix (oIxK K) (pv 1) pe_int (fun _ _ => rfl)) pe_int (fun _ _ => rfl)) (nomark _))))))))
    (pss_one (ps_ret (pe_ix (oIxK K) (pv 1) pe_int (fun _ _ => rfl))))
    pss_nil)
    (pss_one (ps_ret (pe_ix (oIxK K) (pv 1) pe_int (fun _ _ => rfl))))))), ?_⟩
      try dsimp only [cxOf]
      walk_at "y"
      refine ⟨v, d, rfl, wv, sd, fun H1 e1 => ?_⟩
      rw [hn]
      walk_at "y"
      exact x_kerr fun e H2 e2 h2 => hE e H2 (e1.trans e2) h2
    refine ⟨_, (pss_cons (ps_if (pt_not (pt_val (pe_c c_are_slots hr (by decide) (by rfl) (pa_cons (pv 0) pa_nil))))
    (pss_one (ps_raiseErr rfl ER.InvalidDisk hr (takes_of rfl rfl rfl rfl) (pa_cons (pe_un un_neg pe_int) pa_nil)))
    pss_nil)
    (pss_cons (ps_setLc (i := 1) (own := [("half", 2)]) rfl sc_read_back.nd rfl rfl (sw_true rfl rfl rfl (by decide +kernel)) (pi_range1 (by rfl) T.range (pa_cons pe_int pa_nil)) (blkOk_by (N := nms_read_back) (sc := defScope s_read_back) (by decide +kernel)) (fun _ _ _ _ _ => (pg_name (i := 2) sc_read_back.nd rfl (by first | exact Or.inl rfl | exact Or.inr rfl))) (fun _ _ _ _ _ => pts_nil) (fun _ _ _ _ _ => (pe_c c_read_half hr (by decide) (by rfl) (pa_cons (pv 0) (pa_cons (pv 2) pa_nil)))))
    (pss_cons (ps_if (PW.pt (pw_or (pt_cmpR op_isN1 (pe_ix (oIxK K) (pv 1) pe_int (fun _ _ => rfl)) pe_non (nomark _)) (pw_or1 (PW.pt (pw_and (pt_cmpR op_notN1 (pe_ix (oIxK K) (pv 1) pe_int (fun _ _ => rfl)) pe_non (nomark _)) (pw_and1 (pt_cmpR op_gt (pe_ix (oIxK K) (pe_ix (oIxK K) (pv 1) pe_int (fun _ _ => rfl)) pe_int (fun _ _ => rfl)) (pe_ix (oIxK K) (pe_ix (oIxK K) (pv 1) pe_int (fun _ _ => rfl)) pe_int (fun _ _ => rfl)) (nomark _))))))))
    (pss_one (ps_ret (pe_ix (oIxK K) (pv 1) pe_int (fun _ _ => rfl))))
    pss_nil)
    (pss_one (ps_ret (pe_ix (oIxK K) (pv 1) pe_int (fun _ _ => rfl))))))), ?_⟩
    try dsimp only [cxOf]
    walk_at "y"
    obtain ⟨d, wd0, sd, ar⟩ := seq_are hv hS m1 m2 so
    refine ⟨v, d, rfl, wd0, sd, fun H1 e1 => ?_⟩
    rw [ar]
    walk_at "y"
    have t0 := rhD_to (half := 0) h0 so
    have t1 := rhD_to (half := 1) h1 so
    rw [show (2 : Int) = ((2 : Nat) : Int) from rfl]
    refine y_lcR (K := K) [] (fun _ => True) (fun i ds => ds = ([rhD 0 r0, rhD 1 r1] : List PyData).take i) 2 (by decide) (by simp) keeps_true trivial rfl (fun i H2 ds hi g2 _ hds ok no hok hno => ?_) (fun E acc ds H2 nE g2 _ hE wd t hds => ?_)
    · refine turn_name rfl ?_
      walk_at "y"
      rcases (show i = 0 ∨ i = 1 by omega) with rfl | rfl
      · refine ⟨v, S, 0, M, r0, rfl, hv.ex (e1.trans g2.ex), hS, by omega, m1, m2, so, by rw [Nat.zero_mul]; exact h0, fun u H3 e3 w3 => ?_⟩
        exact hok u _ H3 e3.go trivial w3 t0 (by dsimp only; rw [hds]; rfl)
      · refine ⟨v, S, 1, M, r1, rfl, hv.ex (e1.trans g2.ex), hS, by omega, m1, m2, so, by rw [Nat.one_mul]; exact h1, fun u H3 e3 w3 => ?_⟩
        exact hok u _ H3 e3.go trivial w3 t1 (by dsimp only; rw [hds]; rfl)
    · have hds : ds = [rhD 0 r0, rhD 1 r1] := hds
      subst hds
      have ex2 := e1.trans g2.ex
      cases wd with
      | @cons u0 vs0 _ _ w0 wd =>
      cases wd with
      | @cons u1 vs1 _ _ w1 wd =>
      cases wd
      walk_at "y"
      refine x_ixl hE (n := 0) rfl rfl ?_
      cases r0 with
      | none =>
        cases w0
        walk_at "y"
        refine x_ixl hE (n := 1) rfl rfl ?_
        refine q _ _ ex2 ?_
        cases r1 with
        | none => exact w1
        | some r => exact w1
      | some r =>
        obtain ⟨g, l, p⟩ := r
        have w0' := w0
        cases w0' with
        | @tup a0 xs0 _ ea0 wa0 =>
        walk_at "y"
        refine x_ixl hE (n := 1) rfl rfl ?_
        cases r1 with
        | none =>
          cases w1
          walk_at "y"
          refine x_ixl hE (n := 0) rfl rfl ?_
          exact q _ _ ex2 w0
        | some r' =>
          obtain ⟨g', l', p'⟩ := r'
          have w1' := w1
          cases w1' with
          | @tup a1 xs1 _ ea1 wa1 =>
          walk_at "y"
          refine x_ixl hE (n := 1) rfl rfl ?_
          walk_at "y"
          refine x_ixd (n := 0) (d := .int (g' : Int)) w1 rfl rfl fun u9 w9 => ?_
          cases w9
          walk_at "y"
          refine x_ixl hE (n := 0) rfl rfl ?_
          walk_at "y"
          refine x_ixd (n := 0) (d := .int (g : Int)) w0 rfl rfl fun u8 w8 => ?_
          cases w8
          walk_at "y"
          by_cases c : g < g'
          · rw [show decide ((g' : Int) > g) = true from decide_eq_true (by omega)]
            walk_at "y"
            refine x_ixl hE (n := 1) rfl rfl ?_
            refine q _ _ ex2 ?_
            unfold pickH
            dsimp only
            rw [if_pos c]
            exact w1
          · rw [show decide ((g' : Int) > g) = false from decide_eq_false (by omega)]
            walk_at "y"
            refine x_ixl hE (n := 0) rfl rfl ?_
            refine q _ _ ex2 ?_
            unfold pickH
            dsimp only
            rw [if_neg c]
            exact w0
def spBehind (P : Program) (K : PySem.W.Frag) (mg : Str → Option Value) (ER : Ers P K mg) : Sp := fun vs H Q E => ∃ x y d e, vs = [x, y] ∧ Wt K H x d ∧ PageSide d ∧
  ((isPage d = false ∧ Errs E ER.cP 0 H) ∨ ∃ p, d = pageD p ∧ PageOk p ∧ Wt K H y e ∧ PageSide e ∧ ((isPage e = false ∧ Errs E ER.cP 1 H) ∨ ∃ r, e = pageD r ∧ PageOk r ∧ ∀ v H', Ex H H' → Wt K H' v (pageD (over p r)) → Q v H'))
abbrev s_page_behind : Stmt := top 21
abbrev nms_page_behind : List Str := ["page", "row"]
theorem sc_page_behind : FnScope nms_page_behind ["page", "row"] (defScope s_page_behind) := ⟨rfl, rfl, rfl, by decide +kernel, rfl, by decide +kernel, by decide +kernel⟩
theorem ok_page_behind {f : Addr} {fd : FuncData} (F : Fun K "page_behind" "page_behind" s_page_behind f fd) (hm : mg "page_behind" = some (.ref f)) (b : Binds K fd ["page", "row"] []) (T : Bt mg) (ER : Ers P K mg) (c_is_page : Cal P w K mg base 3 "is_page" (spPage K)) (c_laid_over : Cal P w K mg base 1 "laid_over" (spOver K)) : Cal P w K mg base 4 "page_behind" (spBehind P K mg ER) := by
  refine cal_of F hm b sc_page_behind (fun vs H Q E h => ?_) (fun cdv A outer s H vs Q E hr h => ?_)
  · obtain ⟨x, y, d, e, rfl, _⟩ := h
    rfl
  · obtain ⟨x, y, d, e, rfl, wx, sd, q⟩ := h
    have hu64 := pass_hu64 hr
    refine ⟨_, (pss_cons (ps_if (pt_not (pt_val (pe_c c_is_page hr (by decide) (by rfl) (pa_cons (pv 0) pa_nil))))
    (pss_one (ps_raiseErr rfl ER.InvalidPage hr (takes_of rfl rfl rfl rfl) (pa_cons pe_int pa_nil)))
    pss_nil)
    (pss_cons (ps_if (pt_not (pt_val (pe_c c_is_page hr (by decide) (by rfl) (pa_cons (pv 1) pa_nil))))
    (pss_one (ps_raiseErr rfl ER.InvalidPage hr (takes_of rfl rfl rfl rfl) (pa_cons pe_int pa_nil)))
    pss_nil)
    (pss_one (ps_ret (pe_c c_laid_over hr (by decide) (by rfl) (pa_cons (pv 0) (pa_cons (pv 1) pa_nil))))))), ?_⟩
    try dsimp only [cxOf]
    walk_at "y"
    refine ⟨x, d, rfl, wx, sd, fun H1 e1 => ?_⟩
    rcases q with ⟨hn, hE⟩ | ⟨p, rfl, hp, wy, se, q⟩
    · rw [hn]
      walk_at "y"
      exact x_kerr fun e H2 e2 h2 => hE e H2 (e1.trans e2) h2
    rw [isPage_ok hp]
    walk_at "y"
    refine ⟨y, e, rfl, wy.ex e1, se, fun H2 e2 => ?_⟩
    have E2 := e1.trans e2
    rcases q with ⟨hn, hE⟩ | ⟨r, rfl, hr2, q⟩
    · rw [hn]
      walk_at "y"
      exact x_kerr fun e H3 e3 h3 => hE e H3 (E2.trans e3) h3
    rw [isPage_ok hr2]
    walk_at "y"
    exact ⟨x, y, p, r, rfl, wx.ex E2, wy.ex E2, hp, hr2, fun v H3 e3 w3 => q v H3 (E2.trans e3) w3⟩
end
end Y
/-! part E1 -/
/-! Disks of slots, books: plain. -/
namespace Y
open PySem L2
section
variable {P : Program} {w : World} {K : PySem.W.Frag} {mg : Str → Option Value} {base : Heap}
def entP (p : Nat × Entry) : Nat × PyData := (p.1, entD p.2)
def DskAt (K : PySem.W.Frag) (C a : Addr) (S F : List Slot) (U : List (Nat × Entry)) (H : Hp) : Prop := DiskAt K C a (S.map slD) (F.map slD) (U.map entP) H
structure DskOk (S F : List Slot) (U : List (Nat × Entry)) (M : Nat) : Prop where
  s : ∀ s ∈ S, SlotOk s
  f : ∀ s ∈ F, SlotOk s
  u : ∀ p ∈ U, EntOk p.2 ∧ p.1 < 2 * M
  ls : S.length = 2 * M
  lf : F.length = 2 * M
  m1 : 2 ≤ M
  m2 : M ≤ 32
  lu : U.length ≤ 200
theorem dok_of {S F : List Slot} {U : List (Nat × Entry)} {M : Nat} (hs : ∀ s ∈ S, SlotOk s) (hf : ∀ s ∈ F, SlotOk s) (hu : ∀ p ∈ U, EntOk p.2 ∧ p.1 < 2 * M) (lf : F.length = 2 * M) : DOk (S.map slD) (F.map slD) (U.map entP) := by
  refine ⟨fun d hd => ?_, fun d hd => ?_, fun p hp => ?_⟩
  · obtain ⟨s, h, rfl⟩ := List.mem_map.mp hd
    exact (lay_slot (hs s h)).to
  · obtain ⟨s, h, rfl⟩ := List.mem_map.mp hd
    exact (lay_slot (hf s h)).to
  · obtain ⟨q, hq, rfl⟩ := List.mem_map.mp hp
    exact ⟨(lay_ent (hu q hq).1).to, by rw [List.length_map, lf]; exact (hu q hq).2⟩
theorem DskOk.d {S F : List Slot} {U : List (Nat × Entry)} {M : Nat} (h : DskOk S F U M) : DOk (S.map slD) (F.map slD) (U.map entP) := dok_of h.s h.f h.u h.lf
theorem DskAt.go {S F : List Slot} {U : List (Nat × Entry)} {M : Nat} {L : List Addr} {C a : Addr} {H H' : Hp} (h : DskAt K C a S F U H) (o : DskOk S F U M) (g : Go L H H') (n : a ∉ L) : DskAt K C a S F U H' := DiskAt.go h o.d g n
structure Bk where
  life : Nat
  gen : Nat
  half : Nat
  last : Nat
  page : Page
theorem place_lt {h M l : Nat} (h1 : h ≤ 1) (h2 : l < M) : h * M + l < 2 * M := by
  have : h * M ≤ 1 * M := Nat.mul_le_mul_right _ h1
  omega
def addB (M : Nat) (b : Bk) (p : Page) : Bk := if b.last + 1 < M then ⟨b.life, b.gen, b.half, b.last + 1, over b.page p⟩ else ⟨b.life, b.gen + 1, 1 - b.half, 0, over b.page p⟩
def addE (M : Nat) (b : Bk) (p : Page) : Entry := if b.last + 1 < M then ⟨b.gen, b.life, b.last + 1, p⟩ else ⟨b.gen + 1, b.life, 0, over b.page p⟩
def addN (M : Nat) (b : Bk) : Nat := if b.last + 1 < M then b.half * M + (b.last + 1) else (1 - b.half) * M + 0
/-! ### the greatest life -/
def livesN (S : List Slot) : List Nat := S.filterMap fun s => s.map (·.l)
def lifeOf (S : List Slot) : Nat := (livesN S).foldr max 0
theorem foldr_max : ∀ (l : List Nat), (∀ x ∈ l, x ≤ l.foldr max 0) ∧ (l.foldr max 0 ∈ (0 :: l))
  | [] => ⟨by simp, by simp⟩
  | a :: l => by
    obtain ⟨h1, h2⟩ := foldr_max l
    refine ⟨fun x hx => ?_, ?_⟩
    · show x ≤ max a (l.foldr max 0)
      rcases List.mem_cons.mp hx with rfl | hx
      · exact Nat.le_max_left _ _
      · exact Nat.le_trans (h1 x hx) (Nat.le_max_right _ _)
    · show max a (l.foldr max 0) ∈ _
      rcases Nat.le_total a (l.foldr max 0) with h | h
      · rw [Nat.max_eq_right h]
        rcases List.mem_cons.mp h2 with z | z
        · rw [z]; simp
        · exact List.mem_cons_of_mem _ (List.mem_cons_of_mem _ z)
      · rw [Nat.max_eq_left h]; simp
theorem life_le {S : List Slot} {e : Entry} (h : some e ∈ S) : e.l ≤ lifeOf S :=
  (foldr_max (livesN S)).1 _ (List.mem_filterMap.mpr ⟨some e, h, rfl⟩)
theorem life_is {S : List Slot} {m : Int} (h1 : m ∈ ((0 : Int) :: (livesN S).map fun (n : Nat) => (n : Int))) (h2 : ∀ y ∈ ((0 : Int) :: (livesN S).map fun (n : Nat) => (n : Int)), y ≤ m) : m = (lifeOf S : Int) := by
  obtain ⟨a, b⟩ := foldr_max (livesN S)
  have h0 : (0 : Int) ≤ m := h2 0 (List.mem_cons_self ..)
  apply Int.le_antisymm
  · rcases List.mem_cons.mp h1 with rfl | h1
    · omega
    · obtain ⟨n, hn, rfl⟩ := List.mem_map.mp h1
      have := a n hn
      unfold lifeOf
      omega
  · rcases List.mem_cons.mp b with z | z
    · unfold lifeOf; rw [z]; exact h0
    · exact h2 _ (List.mem_cons_of_mem _ (List.mem_map.mpr ⟨_, z, rfl⟩))
theorem lives_snoc {S : List Slot} {i : Nat} {s : Slot} (h : S[i]? = some s) : livesN (S.take (i + 1)) = livesN (S.take i) ++ (match s with
  | none => []
  | some e => [e.l]) := by
  rw [take_snoc h]
  unfold livesN
  rw [List.filterMap_append]
  cases s <;> rfl
theorem lives_len : ∀ S : List Slot, (livesN S).length ≤ S.length := fun S => List.length_filterMap_le _ _
def openB (S : List Slot) (f : Option (Nat × Nat × Nat × Page)) (first : Page) : Bk := match f with
  | none => ⟨1 + lifeOf S, 1, 0, 0, first⟩
  | some (g, h, l, p) => ⟨1 + lifeOf S, g, h, l, p⟩
end
end Y
/-! part C0 -/
/-! The law's box. -/
namespace Y
open PySem L2
local macro_rules | `(tactic| walk_at "y1") => `(tactic| (first
  | (with_reducible refine x_seq ?_) | (with_reducible refine x_asg ?_) | (with_reducible refine x_name ?_) | (with_reducible refine x_drop ?_) | (with_reducible refine x_ret ?_) | (with_reducible refine x_retN ?_)
  | (with_reducible refine x_next ?_) | (with_reducible refine x_brk ?_) | (with_reducible refine x_ifS ?_)
  | (with_reducible refine x_c ?_) | (with_reducible refine x_op ?_) | (with_reducible refine x_un ?_) | (with_reducible refine x_cb ?_) | (with_reducible refine x_cons ?_) | (with_reducible refine x_nil ?_)
  | (with_reducible refine x_call ?_) | (with_reducible refine x_tup ?_) | (with_reducible refine x_lst ?_) | (with_reducible refine x_sl ?_) | (with_reducible refine x_nopart ?_) | (with_reducible refine x_part ?_)
  | (with_reducible refine x_andV ?_) | (with_reducible refine x_orV ?_) | (with_reducible refine x_notV ?_) | (with_reducible refine x_if ?_) | (with_reducible refine x_test ?_) | (with_reducible refine x_tb ?_)
  | (with_reducible refine x_and ?_) | (with_reducible refine x_or ?_) | (with_reducible refine x_not ?_) | (with_reducible refine x_chain ?_) | (with_reducible refine x_exbl ?_) | (with_reducible refine x_exint ?_)
  | (with_reducible refine x_fld ?_) | (with_reducible refine x_sfld ?_) | (with_reducible refine x_par ?_) | (with_reducible refine x_par3 ?_) | (with_reducible refine x_dget ?_) | (with_reducible refine x_dput ?_)
  | (with_reducible refine x_bm ?_) | (with_reducible refine x_bm0 ?_) | (with_reducible refine x_pair ?_) | (with_reducible refine x_tri ?_) | (with_reducible refine x_int ?_) | (with_reducible refine x_intb ?_) | (with_reducible refine x_abs ?_) | (with_reducible refine x_isN ?_) | (with_reducible refine x_notN ?_) | (with_reducible refine x_meth ?_) | (with_reducible refine x_make ?_)
  | (with_reducible refine x_ite1 ?_) | (with_reducible refine x_ite0 ?_)
  | (with_reducible refine x_addi ?_) | (with_reducible refine x_neg ?_) | (with_reducible refine x_i0 ?_) | (with_reducible refine x_eqi ?_) | (with_reducible refine x_eqs ?_) | (with_reducible refine x_eqb ?_) | (with_reducible refine x_nei ?_) | (with_reducible refine x_lti ?_)
  | (with_reducible refine x_forL ?_) | (with_reducible refine x_forT ?_) | (with_reducible refine x_forR ?_) | (with_reducible refine x_forR2 ?_) | (with_reducible refine x_lcL ?_) | (with_reducible refine x_lcT ?_) | (with_reducible refine x_lcR ?_)
  | (with_reducible refine x_yes ?_) | (with_reducible refine x_pcons ?_) | (with_reducible refine x_pnil ?_) | (with_reducible refine x_gcons ?_) | (with_reducible refine x_gnil ?_) | (with_reducible refine x_gattr ?_) | (with_reducible refine x_raise ?_) | (with_reducible refine x_gsub ?_) | (with_reducible refine x_fldaug ?_) | (with_reducible refine x_radd ?_) | (with_reducible refine x_ipi ?_) | ((with_reducible refine x_aug (x := ?vv) ?hh ?qq); (case hh => exact rfl))
  | ((with_reducible refine x_iteA ?hc ?q); (case hc => exact rfl)) | ((with_reducible refine x_iteB ?hc ?q); (case hc => exact rfl))
  | ((with_reducible refine x_var (v := ?vv) ?hh ?qq); (case hh => exact rfl))
  | ((with_reducible refine r_isInt (d := ?dd) ?hh ?qq); (case hh => assumption)) | ((with_reducible refine r_isBool (d := ?dd) ?hh ?qq); (case hh => assumption)) | ((with_reducible refine r_isTup (d := ?dd) ?hh ?qq); (case hh => assumption))
  | ((with_reducible refine r_isStr (d := ?dd) ?hh ?qq); (case hh => assumption)) | ((with_reducible refine r_isLst (d := ?dd) ?hh ?qq); (case hh => assumption))))
local macro_rules | `(tactic| walk_at "y") => `(tactic| (repeat (walk_at "y1")))
section
variable {P : Program} {w : World} {K : PySem.W.Frag} {mg : Str → Option Value} {base : Heap}
def BoxAt (b : Addr) (H : Hp) : Prop := ∃ i j k : Int, H b = some (.lst [.int i, .int j, .int k])
theorem BoxAt.go {S : List Addr} {b : Addr} {H H' : Hp} (h : BoxAt b H) (g : Go S H H') (n : b ∉ S) : BoxAt b H' := by
  obtain ⟨i, j, k, e⟩ := h
  exact ⟨i, j, k, g.keep b _ n e⟩
def spTake : Sp := fun vs H Q _ => ∃ (b : Addr) (m : Nat), vs = [.ref b, .int (m : Int)] ∧ BoxAt b H ∧ 0 < m ∧ m < 1000000 ∧ ∀ (r : Nat) H', r < m → Go [b] H H' → BoxAt b H' → Q (.int (r : Int)) H'
theorem fmod_nat (x : Int) {m : Nat} (h : 0 < m) : ∃ r : Nat, r < m ∧ Int.fmod x m = (r : Int) := by
  have h1 : (0 : Int) < m := by omega
  refine ⟨(Int.fmod x m).toNat, ?_, ?_⟩
  · have := Int.fmod_lt_of_pos x h1
    have := Int.fmod_nonneg_of_pos x h1
    omega
  · have := Int.fmod_nonneg_of_pos x h1
    omega
abbrev s_take : Stmt := top 28
abbrev nms_take : List Str := ["box", "many", "digit", "raw"]
theorem sc_take : FnScope nms_take ["box", "many"] (defScope s_take) := ⟨rfl, rfl, rfl, by decide +kernel, rfl, by decide +kernel, by decide +kernel⟩
theorem ok_take {f : Addr} {fd : FuncData} (F : Fun K "_law_take" "_law_take" s_take f fd) (hm : mg "_law_take" = some (.ref f)) (b : Binds K fd ["box", "many"] []) (T : Bt mg) : Cal P w K mg base 1 "_law_take" spTake := by
  refine cal_of F hm b sc_take (fun vs H Q E h => ?_) (fun cdv A outer s H vs Q E hr h => ?_)
  · obtain ⟨b, m, rfl, _⟩ := h
    rfl
  · obtain ⟨b, m, rfl, ⟨i, j, k, eb⟩, h0, h1, q⟩ := h
    have hu64 := pass_hu64 hr
    refine ⟨_, (pss_cons (ps_if (pt_cmpR op_gt (pe_ix (oIxK K) (pv 0) pe_int (fun _ _ => rfl)) pe_int (nomark _))
    (pss_cons (ps_set (i := 2) sc_take.nd rfl (by first | exact Or.inl rfl | exact Or.inr rfl) (pe_op op_modN (pe_callTy cInt (by rfl) T.int (by decide +kernel) (pa_cons (pe_ix (oIxK K) (pv 0) pe_int (fun _ _ => rfl)) pa_nil)) (pv 1)))
    (pss_cons (ps_asg (pe_op op_fdivN (pe_ix (oIxK K) (pv 0) pe_int (fun _ _ => rfl)) (pv 1)) (pg_sub (pv 0) pe_int set_list))
    (pss_one (ps_ret (pv 2)))))
    pss_nil)
    (pss_cons (ps_asg (pe_op (oAddK K) (pe_ix (oIxK K) (pv 0) pe_int (fun _ _ => rfl)) pe_int) (pg_sub (pv 0) pe_int set_list))
    (pss_cons (ps_set (i := 3) sc_take.nd rfl (by first | exact Or.inl rfl | exact Or.inr rfl) (pe_op op_modN (pe_callTy cInt (by rfl) T.int (by decide +kernel) (pa_cons (pe_op (oAddK K) (pe_op oMul (pe_op (oAddK K) (pe_ix (oIxK K) (pv 0) pe_int (fun _ _ => rfl)) (pe_op oMul pe_int (pe_ix (oIxK K) (pv 0) pe_int (fun _ _ => rfl)))) pe_int) pe_int) pa_nil)) pe_int))
    (pss_cons (ps_asg (pe_op (oAddK K) (pe_op op_modN (pe_callTy cInt (by rfl) T.int (by decide +kernel) (pa_cons (pe_op (oAddK K) (pe_op oMul (pv 3) pe_int) pe_int) pa_nil)) pe_int) pe_int) (pg_sub (pv 0) pe_int set_list))
    (pss_one (ps_ret (pe_op op_modN (pe_callTy cInt (by rfl) T.int (by decide +kernel) (pa_cons (pe_op op_fdivN (pe_op (oAddK K) (pe_op oMul (pv 3) pe_int) (pe_ix (oIxK K) (pv 0) pe_int (fun _ _ => rfl))) pe_int) pa_nil)) (pv 1)))))))), ?_⟩
    try dsimp only [cxOf]
    have cd : ∀ x : Int, CDivN x (m : Int) := fun x => ⟨by omega, by omega⟩
    have cm : (m : Int) ≠ 0 := by omega
    walk_at "y"
    refine x_ixl eb (n := 0) rfl rfl ?_
    walk_at "y"
    by_cases c : (0 : Int) < i
    · rw [show decide (i > 0) = true from decide_eq_true c]
      walk_at "y"
      refine x_ixl eb (n := 0) rfl rfl ?_
      walk_at "y"
      refine x_iC cm ?_
      walk_at "y"
      refine x_ixl eb (n := 0) rfl rfl ?_
      walk_at "y"
      refine x_iC (cd _) ?_
      walk_at "y"
      refine x_setl eb (n := 0) rfl (by simp) fun H1 g1 h1 => ?_
      obtain ⟨r, hr1, hr2⟩ := fmod_nat i h0
      rw [hr2]
      walk_at "y"
      exact q r H1 hr1 g1 ⟨_, _, _, h1⟩
    · rw [show decide (i > 0) = false from decide_eq_false (by omega)]
      walk_at "y"
      refine x_ixl eb (n := 2) rfl rfl ?_
      walk_at "y"
      refine x_setl eb (n := 2) rfl (by simp) fun H1 g1 h1 => ?_
      replace h1 : H1 b = some (.lst [.int i, .int j, .int (k + 1)]) := h1
      walk_at "y"
      refine x_ixl h1 (n := 1) rfl rfl ?_
      walk_at "y"
      refine x_ixl h1 (n := 2) rfl rfl ?_
      refine x_muli (.inl (by decide)) ?_
      walk_at "y"
      refine x_muli (cmulR _ (by decide)) ?_
      walk_at "y"
      refine x_iC (by decide) ?_
      walk_at "y"
      refine x_muli (cmulR _ (by decide)) ?_
      walk_at "y"
      refine x_iC (by decide) ?_
      walk_at "y"
      refine x_setl h1 (n := 1) rfl (by simp) fun H2 g2 h2 => ?_
      walk_at "y"
      refine x_muli (cmulR _ (by decide)) ?_
      walk_at "y"
      refine x_ixl h2 (n := 1) rfl rfl ?_
      walk_at "y"
      refine x_iC ⟨by decide, by decide⟩ ?_
      walk_at "y"
      refine x_iC cm ?_
      obtain ⟨r, hr1, hr2⟩ := fmod_nat (Int.fdiv (Int.fmod ((j + 70001 * (k + 1)) * 61211 + 37) 2147483563 * 2147483647 + (Int.fmod (Int.fmod ((j + 70001 * (k + 1)) * 61211 + 37) 2147483563 * 38011 + 23057) 2147483629 + 1)) 8191) h0
      rw [hr2]
      exact q r H2 hr1 (g1.trans g2) ⟨_, _, _, h2⟩
def spPick : Sp := fun vs H Q _ => ∃ (b l : Addr) (xs : List V), vs = [.ref b, .ref l] ∧ BoxAt b H ∧ H l = some (.lst xs) ∧ b ≠ l ∧ 0 < xs.length ∧ xs.length < 1000000 ∧ ∀ (i : Nat) x H', xs[i]? = some x → Go [b] H H' → BoxAt b H' → Q x H'
abbrev s_pick : Stmt := top 29
abbrev nms_pick : List Str := ["box", "some"]
theorem sc_pick : FnScope nms_pick ["box", "some"] (defScope s_pick) := ⟨rfl, rfl, rfl, by decide +kernel, rfl, by decide +kernel, by decide +kernel⟩
theorem ok_pick {f : Addr} {fd : FuncData} (F : Fun K "_law_pick" "_law_pick" s_pick f fd) (hm : mg "_law_pick" = some (.ref f)) (b : Binds K fd ["box", "some"] []) (T : Bt mg) (c_take : Cal P w K mg base 1 "_law_take" spTake) : Cal P w K mg base 2 "_law_pick" spPick := by
  refine cal_of F hm b sc_pick (fun vs H Q E h => ?_) (fun cdv A outer s H vs Q E hr h => ?_)
  · obtain ⟨b, l, xs, rfl, _⟩ := h
    rfl
  · obtain ⟨b, l, xs, rfl, eb, el, hbl, h0, h1, q⟩ := h
    have hu64 := pass_hu64 hr
    refine ⟨_, (pss_one (ps_ret (pe_ix (oIxK K) (pv 1) (pe_c c_take hr (by decide) (by rfl) (pa_cons (pv 0) (pa_cons (pe_callB cLen (by rfl) T.len (by decide +kernel) (pa_cons (pv 1) pa_nil)) pa_nil))) (fun _ _ => rfl)))), ?_⟩
    try dsimp only [cxOf]
    walk_at "y"
    refine x_lenl el ?_
    walk_at "y"
    refine ⟨b, xs.length, rfl, eb, h0, h1, fun r H1 hr g1 b1 => ?_⟩
    have el1 := g1.keep l _ (by simp [Ne.symm hbl]) el
    refine x_ixl el1 (n := r) rfl (List.getElem?_eq_getElem hr) ?_
    exact q r _ H1 (List.getElem?_eq_getElem hr) g1 b1
/-! ### box -/
theorem x_lenS {K : PySem.W.Frag} {H : Hp} {Q : VK} {l : Addr} {xs : List V} (h : SqL K H l xs) (q : Q (.int (xs.length : Int)) H) : rLen K [.ref l] H Q := ⟨_, xs.length, rfl, .inl ⟨xs, h, rfl⟩, q⟩
theorem x_ixS {K : PySem.W.Frag} {H : Hp} {Q : VK} {l : Addr} {xs : List V} {i : Int} {n : Nat} {v : V} (h : SqL K H l xs) (hi : i = (n : Int)) (hv : xs[n]? = some v) (q : Q v H) : rIxU K (.ref l) (.int i) H Q :=
  .inl ⟨l, xs, i, v, rfl, rfl, h, by rw [hi]; exact atI_nat hv, q⟩
def spBox (K : PySem.W.Frag) : Sp := fun vs H Q _ => ∃ (l : Addr) (ns : List Int) (k : Nat), vs = [.ref l, .int (k : Int)] ∧ SqL K H l (ns.map V.int) ∧ k < 10 ∧ ∀ b H', Ex H H' → H b = none → BoxAt b H' → Q (.ref b) H'
abbrev s_box : Stmt := top 27
abbrev nms_box : List Str := ["script", "k", "cell"]
theorem sc_box : FnScope nms_box ["script", "k"] (defScope s_box) := ⟨rfl, rfl, rfl, by decide +kernel, rfl, by decide +kernel, by decide +kernel⟩
theorem ok_box {f : Addr} {fd : FuncData} (F : Fun K "_law_box" "_law_box" s_box f fd) (hm : mg "_law_box" = some (.ref f)) (b : Binds K fd ["script", "k"] []) (T : Bt mg) : Cal P w K mg base 1 "_law_box" (spBox K) := by
  refine cal_of F hm b sc_box (fun vs H Q E h => ?_) (fun cdv A outer s H vs Q E hr h => ?_)
  · obtain ⟨l, ns, k, rfl, _⟩ := h
    rfl
  · obtain ⟨l, ns, k, rfl, el, hk, q⟩ := h
    have hu64 := pass_hu64 hr
    refine ⟨_, (pss_cons (ps_set (i := 2) sc_box.nd rfl (by first | exact Or.inl rfl | exact Or.inr rfl) (pe_op (oAddK K) (pe_op oMul pe_int (pv 1)) pe_int))
    (pss_cons (ps_if (pt_cmpR (oLtK K hu64) (pv 1) (pe_callB cLen (by rfl) T.len (by decide +kernel) (pa_cons (pv 0) pa_nil)) (nomark _))
    (pss_one (ps_set (i := 2) sc_box.nd rfl (by first | exact Or.inl rfl | exact Or.inr rfl) (pe_callB cAbs (by rfl) T.abs (by decide +kernel) (pa_cons (pe_ix (oIxK K) (pv 0) (pv 1) (fun _ _ => rfl)) pa_nil))))
    (pss_one (ps_if (pt_cmpR op_gt (pe_callB cLen (by rfl) T.len (by decide +kernel) (pa_cons (pv 0) pa_nil)) pe_int (nomark _))
    (pss_one (ps_set (i := 2) sc_box.nd rfl (by first | exact Or.inl rfl | exact Or.inr rfl) (pe_op (oAddK K) (pv 2) (pe_op oMul (pe_op op_modN (pe_callTy cInt (by rfl) T.int (by decide +kernel) (pa_cons (pe_callB cAbs (by rfl) T.abs (by decide +kernel) (pa_cons (pe_ix (oIxK K) (pv 0) (pe_op op_modN (pe_callTy cInt (by rfl) T.int (by decide +kernel) (pa_cons (pv 1) pa_nil)) (pe_callB cLen (by rfl) T.len (by decide +kernel) (pa_cons (pv 0) pa_nil))) (fun _ _ => rfl)) pa_nil)) pa_nil)) pe_int) pe_int))))
    pss_nil)))
    (pss_one (ps_ret (pe_lst (pa_cons (pe_ix (oIxK K) (pe_lst (pa_cons pe_int (pa_cons (pv 2) pa_nil))) (pe_callTy cInt (by rfl) T.int (by decide +kernel) (pa_cons (pe_cmpR op_ge (pv 2) (pe_op op_pow pe_int pe_int) (nomark _)) pa_nil)) (fun _ _ => rfl)) (pa_cons (pe_op (oAddK K) (pe_op op_modN (pe_callTy cInt (by rfl) T.int (by decide +kernel) (pa_cons (pe_op (oAddK K) (pe_op oMul (pe_op op_modN (pe_callTy cInt (by rfl) T.int (by decide +kernel) (pa_cons (pv 2) pa_nil)) pe_int) pe_int) (pe_op oMul pe_int (pv 1))) pa_nil)) pe_int) pe_int) (pa_cons pe_int pa_nil)))))))), ?_⟩
    try dsimp only [cxOf]
    -- the end, of any number
    have fin : ∀ (c : Int), tRet (tLst (tCons (tOp (rIxU K) (tLst (tCons (tC (V.int 0)) (tCons (tVar 2) tNil))) (tCB rInt (tCons (tOp (rI0 fun i j => V.bl (decide (j ≤ i))) (tVar 2) (tOp (rI CPow fun i j => V.int (i ^ j.toNat)) (tC (V.int 10)) (tC (V.int 18)))) tNil)))
        (tCons (tOp (rAddU K) (tOp (rI (fun x j => j ≠ 0) fun i j => V.int (i.fmod j)) (tCB rInt (tCons (tOp (rAddU K) (tOp rMulU (tOp (rI (fun x j => j ≠ 0) fun i j => V.int (i.fmod j)) (tCB rInt (tCons (tVar 2) tNil)) (tC (V.int 2147483629))) (tC (V.int 44017))) (tOp rMulU (tC (V.int 53089)) (tVar 1))) tNil)) (tC (V.int 2147483629))) (tC (V.int 1)))
          (tCons (tC (V.int 0)) tNil)))) { nx := fun x H' => Q V.non H', rt := Q } [some (V.ref l), some (V.int (k : Int)), some (V.int c)] H := fun c => by
      walk_at "y"
      refine x_mkl fun p1 H1 e1 n1 h1 => ?_
      walk_at "y"
      refine x_iC ⟨by decide, by decide, by decide⟩ ?_
      walk_at "y"
      refine x_ixl h1 (n := if decide (c ≥ 10 ^ (18 : Int).toNat) = true then 1 else 0) (by split <;> rfl) (v := .int (if decide (c ≥ 10 ^ (18 : Int).toNat) = true then c else 0)) (by split <;> rfl) ?_
      walk_at "y"
      refine x_iC (by decide) ?_
      walk_at "y"
      refine x_muli (cmulR _ (by decide)) ?_
      walk_at "y"
      refine x_muli (.inl (by decide)) ?_
      walk_at "y"
      refine x_iC (by decide) ?_
      walk_at "y"
      refine x_mkl fun p2 H2 e2 n2 h2 => ?_
      exact q p2 H2 (e1.trans e2) (e1.free n2) ⟨_, _, _, h2⟩
    walk_at "y"
    refine x_muli (.inl (by decide)) ?_
    walk_at "y"
    refine x_lenS el ?_
    rw [List.length_map]
    refine .inl ?_
    walk_at "y"
    by_cases c1 : k < ns.length
    · rw [show decide ((k : Int) < ns.length) = true from decide_eq_true (by omega)]
      walk_at "y"
      refine x_ixS el (n := k) rfl (by rw [List.getElem?_map, List.getElem?_eq_getElem c1]; rfl) ?_
      first | refine x_abs ?_ | refine x_nil (x_abs ?_)
      exact fin _
    · rw [show decide ((k : Int) < ns.length) = false from decide_eq_false (by omega)]
      walk_at "y"
      refine x_lenS el ?_
      rw [List.length_map]
      walk_at "y"
      by_cases c2 : 0 < ns.length
      · rw [show decide ((ns.length : Int) > 0) = true from decide_eq_true (by omega)]
        walk_at "y"
        refine x_lenS el ?_
        rw [List.length_map]
        refine x_iC (show (ns.length : Int) ≠ 0 by omega) ?_
        obtain ⟨r, hr1, hr2⟩ := fmod_nat (k : Int) c2
        rw [hr2]
        refine x_ixS el (n := r) rfl (by rw [List.getElem?_map, List.getElem?_eq_getElem hr1]; rfl) ?_
        walk_at "y"
        refine x_iC (by decide) ?_
        walk_at "y"
        refine x_muli (cmulR _ (by decide)) ?_
        refine x_addi ?_
        exact fin _
      · rw [show decide ((ns.length : Int) > 0) = false from decide_eq_false (by omega)]
        refine x_ite0 ?_
        exact fin _
end
end Y
/-! part C1 -/
/-! The law's same: told of two that stand for one datum. -/
namespace Y
open PySem L2
local macro_rules | `(tactic| walk_at "y1") => `(tactic| (first
  | (with_reducible refine x_seq ?_) | (with_reducible refine x_asg ?_) | (with_reducible refine x_name ?_) | (with_reducible refine x_drop ?_) | (with_reducible refine x_ret ?_) | (with_reducible refine x_retN ?_)
  | (with_reducible refine x_next ?_) | (with_reducible refine x_brk ?_) | (with_reducible refine x_ifS ?_)
  | (with_reducible refine x_c ?_) | (with_reducible refine x_op ?_) | (with_reducible refine x_un ?_) | (with_reducible refine x_cb ?_) | (with_reducible refine x_cons ?_) | (with_reducible refine x_nil ?_)
  | (with_reducible refine x_call ?_) | (with_reducible refine x_tup ?_) | (with_reducible refine x_lst ?_) | (with_reducible refine x_sl ?_) | (with_reducible refine x_nopart ?_) | (with_reducible refine x_part ?_)
  | (with_reducible refine x_andV ?_) | (with_reducible refine x_orV ?_) | (with_reducible refine x_notV ?_) | (with_reducible refine x_if ?_) | (with_reducible refine x_test ?_) | (with_reducible refine x_tb ?_)
  | (with_reducible refine x_and ?_) | (with_reducible refine x_or ?_) | (with_reducible refine x_not ?_) | (with_reducible refine x_chain ?_) | (with_reducible refine x_exbl ?_) | (with_reducible refine x_exint ?_)
  | (with_reducible refine x_fld ?_) | (with_reducible refine x_sfld ?_) | (with_reducible refine x_par ?_) | (with_reducible refine x_par3 ?_) | (with_reducible refine x_dget ?_) | (with_reducible refine x_dput ?_)
  | (with_reducible refine x_bm ?_) | (with_reducible refine x_bm0 ?_) | (with_reducible refine x_pair ?_) | (with_reducible refine x_tri ?_) | (with_reducible refine x_int ?_) | (with_reducible refine x_intb ?_) | (with_reducible refine x_abs ?_) | (with_reducible refine x_isN ?_) | (with_reducible refine x_notN ?_) | (with_reducible refine x_meth ?_) | (with_reducible refine x_make ?_)
  | (with_reducible refine x_ite1 ?_) | (with_reducible refine x_ite0 ?_)
  | (with_reducible refine x_addi ?_) | (with_reducible refine x_neg ?_) | (with_reducible refine x_i0 ?_) | (with_reducible refine x_eqi ?_) | (with_reducible refine x_eqs ?_) | (with_reducible refine x_eqb ?_) | (with_reducible refine x_nei ?_) | (with_reducible refine x_lti ?_)
  | (with_reducible refine x_forL ?_) | (with_reducible refine x_forT ?_) | (with_reducible refine x_forR ?_) | (with_reducible refine x_forR2 ?_) | (with_reducible refine x_lcL ?_) | (with_reducible refine x_lcT ?_) | (with_reducible refine x_lcR ?_)
  | (with_reducible refine x_yes ?_) | (with_reducible refine x_pcons ?_) | (with_reducible refine x_pnil ?_) | (with_reducible refine x_gcons ?_) | (with_reducible refine x_gnil ?_) | (with_reducible refine x_gattr ?_) | (with_reducible refine x_raise ?_) | (with_reducible refine x_gsub ?_) | (with_reducible refine x_fldaug ?_) | (with_reducible refine x_radd ?_) | (with_reducible refine x_ipi ?_) | ((with_reducible refine x_aug (x := ?vv) ?hh ?qq); (case hh => exact rfl))
  | ((with_reducible refine x_iteA ?hc ?q); (case hc => exact rfl)) | ((with_reducible refine x_iteB ?hc ?q); (case hc => exact rfl))
  | ((with_reducible refine x_var (v := ?vv) ?hh ?qq); (case hh => exact rfl))
  | ((with_reducible refine r_isInt (d := ?dd) ?hh ?qq); (case hh => assumption)) | ((with_reducible refine r_isBool (d := ?dd) ?hh ?qq); (case hh => assumption)) | ((with_reducible refine r_isTup (d := ?dd) ?hh ?qq); (case hh => assumption))
  | ((with_reducible refine r_isStr (d := ?dd) ?hh ?qq); (case hh => assumption)) | ((with_reducible refine r_isLst (d := ?dd) ?hh ?qq); (case hh => assumption))))
local macro_rules | `(tactic| walk_at "y") => `(tactic| (repeat (walk_at "y1")))
/-- no tuple in it is long -/
def narrow : PyData → Bool
  | .tuple xs => decide (xs.length ≤ 1000) && narrowL xs
  | _ => true
where
  narrowL : List PyData → Bool
  | [] => true
  | d :: ds => narrow d && narrowL ds
theorem narrowL_iff : ∀ {ds : List PyData}, narrow.narrowL ds = true ↔ ∀ d ∈ ds, narrow d = true
  | [] => by simp [narrow.narrowL]
  | d :: ds => by
    have ih := @narrowL_iff ds
    show (narrow d && narrow.narrowL ds) = true ↔ _
    rw [Bool.and_eq_true, ih]
    simp
theorem narrow_tup {ds : List PyData} (h : ds.length ≤ 1000) (h' : ∀ d ∈ ds, narrow d = true) : narrow (.tuple ds) = true := by
  show (decide (ds.length ≤ 1000) && narrow.narrowL ds) = true
  rw [decide_eq_true h, narrowL_iff.mpr h']
  rfl
mutual
theorem narrow_of : ∀ {d : PyData}, nodes d ≤ 1000 → narrow d = true
  | .tuple ds, h => by
    have h : nodesL ds + 1 ≤ 1000 := h
    have := nodesL_len ds
    show (decide (ds.length ≤ 1000) && narrow.narrowL ds) = true
    rw [decide_eq_true (by omega), narrowL_of (by omega)]
    rfl
  | .none, _ => rfl
  | .bool _, _ => rfl
  | .int _, _ => rfl
  | .str _, _ => rfl
  | .list _, _ => rfl
  | .dict _, _ => rfl
theorem narrowL_of : ∀ {ds : List PyData}, nodesL ds ≤ 1000 → narrow.narrowL ds = true
  | [], _ => rfl
  | d :: ds, h => by
    have h : nodes d + nodesL ds ≤ 1000 := h
    show (narrow d && narrow.narrowL ds) = true
    rw [narrow_of (by omega), narrowL_of (by omega)]
    rfl
end
/-- what same can be told of -/
structure Sm (n : Nat) (d : PyData) : Prop where
  to : tupOnly d = true
  nw : narrow d = true
  dp : d.depth < n
theorem Sm.mono {n m : Nat} {d : PyData} (h : Sm n d) (l : n ≤ m) : Sm m d := ⟨h.to, h.nw, Nat.lt_of_lt_of_le h.dp l⟩
theorem Sm.tup {n : Nat} {ds : List PyData} (hl : ds.length ≤ 1000) (hn : 0 < n) (h : ∀ d ∈ ds, Sm n d) : Sm (n + 1) (.tuple ds) :=
  ⟨tup_to fun d hd => (h d hd).to, narrow_tup hl fun d hd => (h d hd).nw, by
    show PyData.depthAll ds + 1 < n + 1
    have := depthAll_le (n := n - 1) fun d hd => (by have := (h d hd).dp; omega : d.depth ≤ n - 1)
    omega⟩
theorem sm_int (i : Int) : Sm 1 (.int i) := ⟨rfl, rfl, Nat.lt_succ_self _⟩
theorem sm_str (i : Str) : Sm 1 (.str i) := ⟨rfl, rfl, Nat.lt_succ_self _⟩
theorem sm_val {d : PyData} (h : valOk d = true) : Sm 4 d := ⟨(val_of h).to, narrow_of (Nat.le_trans (val_of h).nd (by decide)), Nat.lt_succ_of_le (val_of h).dp⟩
theorem sm_key {k : KeyT} (h : k ∈ uni) : Sm 2 (tkD k) := Sm.tup (by rw [List.length_map]; have := key_len h; omega) (by decide) fun d hd => by
  obtain ⟨x, _, rfl⟩ := List.mem_map.mp hd
  cases x
  · exact sm_int _
  · exact sm_str _
theorem sm_pair {k : KeyT} {d : PyData} (h : k ∈ uni) (h' : valOk d = true) : Sm 5 (pairD (k, d)) := Sm.tup (by simp) (by decide) fun x hx => by
  simp only [List.mem_cons, List.not_mem_nil, or_false] at hx
  rcases hx with rfl | rfl
  · exact (sm_key h).mono (by decide)
  · exact sm_val h'
theorem sm_page {p : Page} (h : PageOk p) : Sm 6 (pageD p) := Sm.tup (by rw [List.length_map]; have := h.len; omega) (by decide) fun x hx => by
  obtain ⟨kv, m, rfl⟩ := List.mem_map.mp hx
  exact sm_pair (h.ks kv m) (h.vs kv m)
theorem sm_ent {e : Entry} (h : EntOk e) : Sm 7 (entD e) := Sm.tup (by simp) (by decide) fun x hx => by
  simp only [List.mem_cons, List.not_mem_nil, or_false] at hx
  rcases hx with rfl | rfl | rfl | rfl
  · exact (sm_int _).mono (by decide)
  · exact (sm_int _).mono (by decide)
  · exact (sm_int _).mono (by decide)
  · exact sm_page h
theorem sm_slots {S : List Slot} (h : ∀ s ∈ S, SlotOk s) (hl : S.length ≤ 1000) : Sm 8 (.tuple (S.map slD)) := Sm.tup (by rw [List.length_map]; exact hl) (by decide) fun x hx => by
  obtain ⟨s, m, rfl⟩ := List.mem_map.mp hx
  cases s with
  | none => exact ⟨rfl, rfl, by show 1 < 7; decide⟩
  | some e => exact sm_ent (h _ m e rfl)
theorem sm_puts {U : List (Nat × Entry)} (h : ∀ p ∈ U, EntOk p.2) (hl : U.length ≤ 1000) : Sm 9 (.tuple ((U.map entP).map putD)) := Sm.tup (by rw [List.length_map, List.length_map]; exact hl) (by decide) fun x hx => by
  rw [List.map_map] at hx
  obtain ⟨s, m, rfl⟩ := List.mem_map.mp hx
  refine Sm.tup (by simp) (by decide) fun y hy => ?_
  simp only [List.mem_cons, List.not_mem_nil, or_false] at hy
  rcases hy with rfl | rfl
  · exact (sm_int _).mono (by decide)
  · exact sm_ent (h s m)
section
variable {P : Program} {w : World} {K : PySem.W.Frag} {mg : Str → Option Value} {base : Heap}
def spSame (K : PySem.W.Frag) (n : Nat) : Sp := fun vs H Q _ => ∃ x y d, vs = [x, y] ∧ Wt K H x d ∧ Wt K H y d ∧ Sm n d ∧ ∀ H', Ex H H' → Q (.bl true) H'
theorem all_rep (n : Nat) : ((List.replicate n true).all id) = true := by
  rw [List.all_eq_true]
  intro x hx
  exact (List.mem_replicate.mp hx).2
abbrev s_same : Stmt := top 30
abbrev nms_same : List Str := ["one", "other", "place"]
theorem sc_same : FnScope nms_same ["one", "other"] (defScope s_same) := ⟨rfl, rfl, rfl, by decide +kernel, rfl, by decide +kernel, by decide +kernel⟩
theorem ok_same {f : Addr} {fd : FuncData} (F : Fun K "_law_same" "_law_same" s_same f fd) (hm : mg "_law_same" = some (.ref f)) (b : Binds K fd ["one", "other"] []) (T : Bt mg) : ∀ n, Cal P w K mg base n "_law_same" (spSame K n)
  | 0 => ⟨f, fd, _, ⟨fun vs H Q E ⟨_, _, _, _, _, _, s, _⟩ => absurd s.dp (Nat.not_lt_zero _), fun A outer s H args us vs Q E _ _ _ _ ⟨_, _, _, _, _, _, s, _⟩ => absurd s.dp (Nat.not_lt_zero _)⟩, hm, F.kp, b⟩
  | n + 1 => by
    have c_same := ok_same F hm b T n
    refine cal_of F hm b sc_same (fun vs H Q E h => ?_) (fun cdv A outer s H vs Q E hr h => ?_)
    · obtain ⟨x, y, d, rfl, _⟩ := h
      rfl
    · obtain ⟨x, y, d, rfl, wx, wy, sm, q⟩ := h
      have hu64 := pass_hu64 hr
      refine ⟨_, (pss_cons (ps_if (pt_val (pe_callB call_isi (by rfl) T.isinstance (by decide +kernel) (pa_cons (pv 1) (pa_cons (pe_bltn (v := .ty "tuple") (by rfl) T.tuple (by decide +kernel) rfl) pa_nil))))
    (pss_cons (ps_if (PW.pt (pw_or (pt_not (pt_val (pe_callB call_isi (by rfl) T.isinstance (by decide +kernel) (pa_cons (pv 0) (pa_cons (pe_bltn (v := .ty "tuple") (by rfl) T.tuple (by decide +kernel) rfl) pa_nil))))) (pw_or1 (pt_cmpR (oNeK K hu64) (pe_callB cLen (by rfl) T.len (by decide +kernel) (pa_cons (pv 0) pa_nil)) (pe_callB cLen (by rfl) T.len (by decide +kernel) (pa_cons (pv 1) pa_nil)) (nomark _)))))
    (pss_one (ps_ret pe_bl))
    pss_nil)
    (pss_one (ps_ret (pe_callB (cr_all rfl) (by rfl) T.all (by decide +kernel) (pa_cons (pe_lc (own := [("place", 2)]) rfl sc_same.nd (pi_range1 (by rfl) T.range (pa_cons (pe_callB cLen (by rfl) T.len (by decide +kernel) (pa_cons (pv 1) pa_nil)) pa_nil)) (blkOk_by (N := nms_same) (sc := defScope s_same) (by decide +kernel)) (fun _ _ _ _ _ => (pg_name (i := 2) sc_same.nd rfl (by first | exact Or.inl rfl | exact Or.inr rfl))) (fun _ _ _ _ _ => pts_nil) (fun _ _ _ _ _ => (pe_c c_same hr (Nat.le_refl _) (by rfl) (pa_cons (pe_ix (oIxK K) (pv 0) (pv 2) (fun _ _ => rfl)) (pa_cons (pe_ix (oIxK K) (pv 1) (pv 2) (fun _ _ => rfl)) pa_nil))))) pa_nil)))))
    pss_nil)
    (pss_cons (ps_if (pt_cmpR op_isN1 (pv 1) pe_non (nomark _))
    (pss_one (ps_ret (pe_cmpR op_isN1 (pv 0) pe_non (nomark _))))
    pss_nil)
    (pss_cons (ps_if (pt_val (pe_callB call_isi (by rfl) T.isinstance (by decide +kernel) (pa_cons (pv 1) (pa_cons (pe_bltn (v := .ty "bool") (by rfl) T.bool (by decide +kernel) rfl) pa_nil))))
    (pss_one (ps_ret (pe_and (pe_callB call_isi (by rfl) T.isinstance (by decide +kernel) (pa_cons (pv 0) (pa_cons (pe_bltn (v := .ty "bool") (by rfl) T.bool (by decide +kernel) rfl) pa_nil))) (pe_one (pe_cmpR (oEqK K hu64) (pv 0) (pv 1) (nomark _))))))
    pss_nil)
    (pss_cons (ps_if (pt_val (pe_callB call_isi (by rfl) T.isinstance (by decide +kernel) (pa_cons (pv 1) (pa_cons (pe_bltn (v := .ty "str") (by rfl) T.str (by decide +kernel) rfl) pa_nil))))
    (pss_one (ps_ret (pe_and (pe_callB call_isi (by rfl) T.isinstance (by decide +kernel) (pa_cons (pv 0) (pa_cons (pe_bltn (v := .ty "str") (by rfl) T.str (by decide +kernel) rfl) pa_nil))) (pe_one (pe_cmpR (oEqK K hu64) (pv 0) (pv 1) (nomark _))))))
    pss_nil)
    (pss_one (ps_ret (pe_and (pe_callB call_isi (by rfl) T.isinstance (by decide +kernel) (pa_cons (pv 0) (pa_cons (pe_bltn (v := .ty "int") (by rfl) T.int (by decide +kernel) rfl) pa_nil))) (pe_and (pe_not (pe_callB call_isi (by rfl) T.isinstance (by decide +kernel) (pa_cons (pv 0) (pa_cons (pe_bltn (v := .ty "bool") (by rfl) T.bool (by decide +kernel) rfl) pa_nil)))) (pe_one (pe_cmpR (oEqK K hu64) (pv 0) (pv 1) (nomark _))))))))))), ?_⟩
      try dsimp only [cxOf]
      rcases d with _ | b | i | x0 | cs | cs | kv
      · have wx' := wx
        have wy' := wy
        walk_at "y"
        cases wx'
        cases wy'
        walk_at "y"
        exact q H (Ex.refl H)
      · have wx' := wx
        have wy' := wy
        walk_at "y"
        cases wx'
        cases wy'
        walk_at "y"
        rw [show decide (b = b) = true from decide_eq_true rfl]
        exact q H (Ex.refl H)
      · have wx' := wx
        have wy' := wy
        walk_at "y"
        cases wx'
        cases wy'
        walk_at "y"
        rw [show decide (i = i) = true from decide_eq_true rfl]
        exact q H (Ex.refl H)
      · have wx' := wx
        have wy' := wy
        walk_at "y"
        cases wx'
        cases wy'
        walk_at "y"
        rw [show decide (x0 = x0) = true from decide_eq_true rfl]
        exact q H (Ex.refl H)
      · have := sm.to
        cases this
      · have hnw := sm.nw
        have hnw : (decide (cs.length ≤ 1000) && narrow.narrowL cs) = true := hnw
        rw [Bool.and_eq_true, decide_eq_true_eq] at hnw
        have hto := tupOnlyL_iff.mp (show tupOnlyL cs = true from sm.to)
        have hnl := narrowL_iff.mp hnw.2
        have hdp : PyData.depthAll cs + 1 < n + 1 := sm.dp
        walk_at "y"
        refine x_lend wx ?_
        walk_at "y"
        refine x_lend wy ?_
        walk_at "y"
        rw [show decide (((cs.length : Nat) : Int) = (cs.length : Int)) = true from decide_eq_true rfl]
        walk_at "y"
        refine x_lend wy ?_
        refine y_lcR (K := K) [] (fun _ => True) (fun i ds => ds = (List.replicate i true).map .bool) cs.length (by omega) (by simp) keeps_true trivial rfl (fun i H2 ds hi g2 _ hds ok no hok hno => ?_) (fun E acc ds H2 nE g2 _ hE wd t hds => ?_)
        · refine turn_name rfl ?_
          have hc := List.getElem?_eq_getElem hi
          have hmem := List.mem_of_getElem? hc
          walk_at "y"
          refine x_ixd (wx.ex g2.ex) rfl hc fun u wu => ?_
          walk_at "y"
          refine x_ixd (wy.ex g2.ex) rfl hc fun u2 wu2 => ?_
          refine ⟨u, u2, _, rfl, wu, wu2, ⟨hto _ hmem, hnl _ hmem, ?_⟩, fun H3 e3 => ?_⟩
          · have : ∀ (l : List PyData) (x : PyData), x ∈ l → x.depth ≤ PyData.depthAll l := fun l x hx => by
              induction l with
              | nil => cases hx
              | cons a l ih =>
                show x.depth ≤ max a.depth (PyData.depthAll l)
                rcases List.mem_cons.mp hx with rfl | hx
                · exact Nat.le_max_left _ _
                · exact Nat.le_trans (ih hx) (Nat.le_max_right _ _)
            have := this cs _ hmem
            omega
          · refine hok _ (.bool true) H3 e3.go trivial (.bl _) rfl ?_
            dsimp only
            rw [hds, List.replicate_succ', List.map_append]
            rfl
        · subst hds
          walk_at "y"
          refine x_all hE wd ?_
          rw [all_rep]
          exact q H2 g2.ex
      · have := sm.to
        cases this
end
end Y
/-! part C2 -/
/-! The law's keys, values, rows. -/
namespace Y
open PySem L2
local macro_rules | `(tactic| walk_at "y1") => `(tactic| (first
  | (with_reducible refine x_seq ?_) | (with_reducible refine x_asg ?_) | (with_reducible refine x_name ?_) | (with_reducible refine x_drop ?_) | (with_reducible refine x_ret ?_) | (with_reducible refine x_retN ?_)
  | (with_reducible refine x_next ?_) | (with_reducible refine x_brk ?_) | (with_reducible refine x_ifS ?_)
  | (with_reducible refine x_c ?_) | (with_reducible refine x_op ?_) | (with_reducible refine x_un ?_) | (with_reducible refine x_cb ?_) | (with_reducible refine x_cons ?_) | (with_reducible refine x_nil ?_)
  | (with_reducible refine x_call ?_) | (with_reducible refine x_tup ?_) | (with_reducible refine x_lst ?_) | (with_reducible refine x_sl ?_) | (with_reducible refine x_nopart ?_) | (with_reducible refine x_part ?_)
  | (with_reducible refine x_andV ?_) | (with_reducible refine x_orV ?_) | (with_reducible refine x_notV ?_) | (with_reducible refine x_if ?_) | (with_reducible refine x_test ?_) | (with_reducible refine x_tb ?_)
  | (with_reducible refine x_and ?_) | (with_reducible refine x_or ?_) | (with_reducible refine x_not ?_) | (with_reducible refine x_chain ?_) | (with_reducible refine x_exbl ?_) | (with_reducible refine x_exint ?_)
  | (with_reducible refine x_fld ?_) | (with_reducible refine x_sfld ?_) | (with_reducible refine x_par ?_) | (with_reducible refine x_par3 ?_) | (with_reducible refine x_dget ?_) | (with_reducible refine x_dput ?_)
  | (with_reducible refine x_bm ?_) | (with_reducible refine x_bm0 ?_) | (with_reducible refine x_pair ?_) | (with_reducible refine x_tri ?_) | (with_reducible refine x_int ?_) | (with_reducible refine x_intb ?_) | (with_reducible refine x_abs ?_) | (with_reducible refine x_isN ?_) | (with_reducible refine x_notN ?_) | (with_reducible refine x_meth ?_) | (with_reducible refine x_make ?_)
  | (with_reducible refine x_ite1 ?_) | (with_reducible refine x_ite0 ?_)
  | (with_reducible refine x_addi ?_) | (with_reducible refine x_neg ?_) | (with_reducible refine x_i0 ?_) | (with_reducible refine x_eqi ?_) | (with_reducible refine x_eqs ?_) | (with_reducible refine x_eqb ?_) | (with_reducible refine x_nei ?_) | (with_reducible refine x_lti ?_)
  | (with_reducible refine x_forL ?_) | (with_reducible refine x_forT ?_) | (with_reducible refine x_forR ?_) | (with_reducible refine x_forR2 ?_) | (with_reducible refine x_lcL ?_) | (with_reducible refine x_lcT ?_) | (with_reducible refine x_lcR ?_)
  | (with_reducible refine x_yes ?_) | (with_reducible refine x_pcons ?_) | (with_reducible refine x_pnil ?_) | (with_reducible refine x_gcons ?_) | (with_reducible refine x_gnil ?_) | (with_reducible refine x_gattr ?_) | (with_reducible refine x_raise ?_) | (with_reducible refine x_gsub ?_) | (with_reducible refine x_fldaug ?_) | (with_reducible refine x_radd ?_) | (with_reducible refine x_ipi ?_) | ((with_reducible refine x_aug (x := ?vv) ?hh ?qq); (case hh => exact rfl))
  | ((with_reducible refine x_iteA ?hc ?q); (case hc => exact rfl)) | ((with_reducible refine x_iteB ?hc ?q); (case hc => exact rfl))
  | ((with_reducible refine x_var (v := ?vv) ?hh ?qq); (case hh => exact rfl))
  | ((with_reducible refine r_isInt (d := ?dd) ?hh ?qq); (case hh => assumption)) | ((with_reducible refine r_isBool (d := ?dd) ?hh ?qq); (case hh => assumption)) | ((with_reducible refine r_isTup (d := ?dd) ?hh ?qq); (case hh => assumption))
  | ((with_reducible refine r_isStr (d := ?dd) ?hh ?qq); (case hh => assumption)) | ((with_reducible refine r_isLst (d := ?dd) ?hh ?qq); (case hh => assumption))))
local macro_rules | `(tactic| walk_at "y") => `(tactic| (repeat (walk_at "y1")))
theorem key_mem {s : Str} {js : List Int} (hs : s ∈ words) (hl : js.length ≤ 2) (hj : ∀ j ∈ js, j ∈ digs) : ((.inr s :: js.map .inl) : KeyT) ∈ uni := by
  unfold uni
  rw [List.mem_flatMap]
  refine ⟨s, hs, ?_⟩
  match js with
  | [] => exact List.mem_cons_self ..
  | [i] =>
    refine List.mem_cons_of_mem _ (List.mem_flatMap.mpr ⟨i, hj i (by simp), ?_⟩)
    exact List.mem_cons_self ..
  | [i, j] =>
    refine List.mem_cons_of_mem _ (List.mem_flatMap.mpr ⟨i, hj i (by simp), ?_⟩)
    exact List.mem_cons_of_mem _ (List.mem_map.mpr ⟨j, hj j (by simp), rfl⟩)
  | _ :: _ :: _ :: _ => simp at hl
theorem dig_small {r : Nat} (h : r < 6) : (r : Int) ∈ digs := by
  match r, h with
  | 0, _ => decide
  | 1, _ => decide
  | 2, _ => decide
  | 3, _ => decide
  | 4, _ => decide
  | 5, _ => decide
section
variable {P : Program} {w : World} {K : PySem.W.Frag} {mg : Str → Option Value} {base : Heap}
theorem keeps_box {b : Addr} {H : Hp} (h : BoxAt b H) : Keeps H fun H' => BoxAt b H' := fun E H1 H2 nE g hb => hb.go g (by
  obtain ⟨i, j, k, e⟩ := h
  intro z
  rw [← List.mem_singleton.mp z, e] at nE
  cases nE)
theorem box_ne {b : Addr} {H : Hp} (h : BoxAt b H) : H b ≠ none := by
  obtain ⟨i, j, k, e⟩ := h
  rw [e]
  simp
def spKeyL (K : PySem.W.Frag) : Sp := fun vs H Q _ => ∃ (b : Addr) (m : Nat), vs = [.ref b, .int (m : Int)] ∧ BoxAt b H ∧ 0 < m ∧ m ≤ 6 ∧ ∀ x k H', Go [b] H H' → BoxAt b H' → Wt K H' x (tkD k) → k ∈ uni → Q x H'
abbrev s_key : Stmt := top 31
abbrev nms_key : List Str := ["box", "wide", "word", "k"]
theorem sc_key : FnScope nms_key ["box", "wide"] (defScope s_key) := ⟨rfl, rfl, rfl, by decide +kernel, rfl, by decide +kernel, by decide +kernel⟩
theorem ok_key {f : Addr} {fd : FuncData} (F : Fun K "_law_key" "_law_key" s_key f fd) (hm : mg "_law_key" = some (.ref f)) (b : Binds K fd ["box", "wide"] []) (T : Bt mg) (c_take : Cal P w K mg base 1 "_law_take" spTake) (c_pick : Cal P w K mg base 2 "_law_pick" spPick) : Cal P w K mg base 3 "_law_key" (spKeyL K) := by
  refine cal_of F hm b sc_key (fun vs H Q E h => ?_) (fun cdv A outer s H vs Q E hr h => ?_)
  · obtain ⟨b, m, rfl, _⟩ := h
    rfl
  · obtain ⟨b, m, rfl, hb, h0, h5, q⟩ := h
    have hu64 := pass_hu64 hr
    refine ⟨_, (pss_cons (ps_set (i := 2) sc_key.nd rfl (by first | exact Or.inl rfl | exact Or.inr rfl) (pe_c c_pick hr (by decide) (by rfl) (pa_cons (pv 0) (pa_cons (pe_lst (pa_cons pe_str (pa_cons pe_str (pa_cons pe_str (pa_cons pe_str (pa_cons pe_str pa_nil)))))) pa_nil))))
    (pss_one (ps_ret (pe_op (oAddK K) (pe_tup (pa_cons (pv 2) pa_nil)) (pe_callTy cTuple (by rfl) T.tuple (by decide +kernel) (pa_cons (pe_lc (own := [("k", 3)]) rfl sc_key.nd (pi_range1 (by rfl) T.range (pa_cons (pe_c c_take hr (by decide) (by rfl) (pa_cons (pv 0) (pa_cons pe_int pa_nil))) pa_nil)) (blkOk_by (N := nms_key) (sc := defScope s_key) (by decide +kernel)) (fun _ _ _ _ _ => (pg_name (i := 3) sc_key.nd rfl (by first | exact Or.inl rfl | exact Or.inr rfl))) (fun _ _ _ _ _ => pts_nil) (fun _ _ _ _ _ => (pe_c c_pick hr (by decide) (by rfl) (pa_cons (pv 0) (pa_cons (pe_lst (pa_cons (pe_c c_take hr (by decide) (by rfl) (pa_cons (pv 0) (pa_cons (pv 1) pa_nil))) (pa_cons (pe_op op_pow pe_int pe_int) pa_nil))) pa_nil))))) pa_nil)))))), ?_⟩
    try dsimp only [cxOf]
    walk_at "y"
    refine x_mkl fun p1 H1 e1 n1 h1 => ?_
    have hb1 := hb.go e1.go (S := []) (by simp)
    walk_at "y"
    have nb1 : b ≠ p1 := fun z => box_ne hb (by rw [z]; exact n1)
    refine ⟨b, p1, _, rfl, hb1, h1, nb1, by simp, by simp, fun i x H2 hx g2 hb2 => ?_⟩
    have hw : ∃ s, s ∈ words ∧ x = .str s := by
      match i with
      | 0 => cases hx; exact ⟨_, by decide, rfl⟩
      | 1 => cases hx; exact ⟨_, by decide, rfl⟩
      | 2 => cases hx; exact ⟨_, by decide, rfl⟩
      | 3 => cases hx; exact ⟨_, by decide, rfl⟩
      | 4 => cases hx; exact ⟨_, by decide, rfl⟩
      | _ + 5 => cases hx
    obtain ⟨s, hs, rfl⟩ := hw
    walk_at "y"
    refine x_mkt (K := K) (.cons (.str s) .nil) fun u3 H3 e3 w3 => ?_
    have hb3 := hb2.go e3.go (S := []) (by simp)
    walk_at "y"
    refine ⟨b, 3, rfl, hb3, by decide, by decide, fun n H4 hn g4 hb4 => ?_⟩
    refine y_lcR (K := K) [b] (fun H' => BoxAt b H') (fun i ds => ∃ js : List Int, js.length = i ∧ (∀ j ∈ js, j ∈ digs) ∧ ds = js.map .int) n (by omega) (by intro z hz; rw [List.mem_singleton.mp hz]; exact box_ne hb4) (keeps_box hb4) hb4 ⟨[], rfl, by simp, rfl⟩ (fun i H5 ds hi g5 hb5 hds ok no hok hno => ?_) (fun E acc ds H5 nE g5 hb5 hE wd t hds => ?_)
    · obtain ⟨js, hl, hj, rfl⟩ := hds
      refine turn_name rfl ?_
      walk_at "y"
      refine ⟨b, m, rfl, hb5, h0, by omega, fun r H6 hr6 g6 hb6 => ?_⟩
      walk_at "y"
      refine x_iC ⟨by decide, by decide, by decide⟩ ?_
      walk_at "y"
      refine x_mkl fun p7 H7 e7 n7 h7 => ?_
      have hb7 := hb6.go e7.go (S := []) (by simp)
      have nb7 : b ≠ p7 := fun z => box_ne hb6 (by rw [z]; exact n7)
      refine ⟨b, p7, _, rfl, hb7, h7, nb7, by simp, by simp, fun i x H8 hx g8 hb8 => ?_⟩
      have hx : ∃ j, j ∈ digs ∧ x = .int j := by
        match i with
        | 0 => cases hx; exact ⟨_, dig_small (by omega), rfl⟩
        | 1 => cases hx; exact ⟨_, by decide, rfl⟩
        | _ + 2 => cases hx
      obtain ⟨j, hj1, rfl⟩ := hx
      refine hok _ (.int j) H8 (g6.trans (e7.go.trans g8)) hb8 (.int _) rfl ⟨js ++ [j], by simp [hl], fun z hz => ?_, by simp⟩
      rcases List.mem_append.mp hz with hz | hz
      · exact hj z hz
      · rw [List.mem_singleton.mp hz]; exact hj1
    · obtain ⟨js, hl, hj, rfl⟩ := hds
      walk_at "y"
      refine x_tupl hE fun p6 H6 e6 n6 h6 => ?_
      have w3' := (w3.go (g4.trans (g5.trans e6.go)) rfl)
      refine x_addt w3' (.tup h6 (wd.ex e6)) (by simp; omega) fun u7 H7 e7 w7 => ?_
      refine q u7 (.inr s :: js.map .inl) H7 ((e1.go.trans g2).trans ((e3.go.trans g4).trans (g5.trans (e6.go.trans e7.go)))) (hb5.go (e6.go.trans e7.go) (S := []) (by simp)) ?_ (key_mem hs (by omega) hj)
      have : tkD (.inr s :: js.map .inl) = .tuple ([.str s] ++ js.map .int) := by
        unfold tkD
        rw [List.map_cons, List.map_map]
        rfl
      rw [this]
      exact w7
/-! ### values -/
def spVal (K : PySem.W.Frag) : Sp := fun vs H Q _ => ∃ (b : Addr), vs = [.ref b] ∧ BoxAt b H ∧ ∀ x d H', Go [b] H H' → BoxAt b H' → Wt K H' x d → valOk d = true → Q x H'
abbrev s_value : Stmt := top 32
abbrev nms_value : List Str := ["box", "some"]
theorem sc_value : FnScope nms_value ["box"] (defScope s_value) := ⟨rfl, rfl, rfl, by decide +kernel, rfl, by decide +kernel, by decide +kernel⟩
theorem ok_value {f : Addr} {fd : FuncData} (F : Fun K "_law_value" "_law_value" s_value f fd) (hm : mg "_law_value" = some (.ref f)) (b : Binds K fd ["box"] []) (T : Bt mg) (c_take : Cal P w K mg base 1 "_law_take" spTake) (c_pick : Cal P w K mg base 2 "_law_pick" spPick) : Cal P w K mg base 3 "_law_value" (spVal K) := by
  refine cal_of F hm b sc_value (fun vs H Q E h => ?_) (fun cdv A outer s H vs Q E hr h => ?_)
  · obtain ⟨b, rfl, _⟩ := h
    rfl
  · obtain ⟨b, rfl, hb, q⟩ := h
    have hu64 := pass_hu64 hr
    refine ⟨_, (pss_cons (ps_set (i := 1) sc_value.nd rfl (by first | exact Or.inl rfl | exact Or.inr rfl) (pe_lst (pa_cons pe_non (pa_cons pe_bl (pa_cons pe_bl (pa_cons pe_int (pa_cons (pe_un un_neg pe_int) (pa_cons (pe_c c_take hr (by decide) (by rfl) (pa_cons (pv 0) (pa_cons pe_int pa_nil))) (pa_cons (pe_op op_pow pe_int pe_int) (pa_cons pe_str (pa_cons pe_str (pa_cons (pe_tup pa_nil) (pa_cons (pe_tup (pa_cons pe_int (pa_cons (pe_tup (pa_cons pe_str (pa_cons pe_non pa_nil))) pa_nil))) (pa_cons (pe_tup (pa_cons (pe_tup (pa_cons pe_int (pa_cons pe_int pa_nil))) (pa_cons pe_int pa_nil))) pa_nil))))))))))))))
    (pss_one (ps_ret (pe_c c_pick hr (by decide) (by rfl) (pa_cons (pv 0) (pa_cons (pv 1) pa_nil)))))), ?_⟩
    try dsimp only [cxOf]
    walk_at "y"
    refine ⟨b, 100, rfl, hb, by decide, by decide, fun n H1 hn g1 hb1 => ?_⟩
    walk_at "y"
    refine x_iC ⟨by decide, by decide, by decide⟩ ?_
    walk_at "y"
    refine x_mkt (K := K) .nil fun u2 H2 e2 w2 => ?_
    walk_at "y"
    refine x_mkt (K := K) (.cons (.str _) (.cons .non .nil)) fun u3 H3 e3 w3 => ?_
    walk_at "y"
    refine x_mkt (K := K) (.cons (.int _) (.cons w3 .nil)) fun u4 H4 e4 w4 => ?_
    walk_at "y"
    refine x_mkt (K := K) (.cons (.int _) (.cons (.int _) .nil)) fun u5 H5 e5 w5 => ?_
    walk_at "y"
    refine x_mkt (K := K) (.cons w5 (.cons (.int _) .nil)) fun u6 H6 e6 w6 => ?_
    walk_at "y"
    refine x_mkl fun p7 H7 e7 n7 h7 => ?_
    have hb7 := hb1.go (e2.trans (e3.trans (e4.trans (e5.trans (e6.trans e7))))).go (S := []) (by simp)
    have nb7 : b ≠ p7 := fun z => box_ne (hb1.go (e2.trans (e3.trans (e4.trans (e5.trans e6)))).go (S := []) (by simp)) (by rw [z]; exact n7)
    walk_at "y"
    refine ⟨b, p7, _, rfl, hb7, h7, nb7, by simp, by simp, fun i x H8 hx g8 hb8 => ?_⟩
    have W : ∃ d, Wt K H8 x d ∧ valOk d = true := by
      have wl : WtL K H7 _ _ := .cons .non (.cons (.bl true) (.cons (.bl false) (.cons (.int 0) (.cons (.int (-5)) (.cons (.int (n : Int)) (.cons (.int (10 ^ (30 : Int).toNat)) (.cons (.str "") (.cons (.str "a b") (.cons (w2.ex (e3.trans (e4.trans (e5.trans (e6.trans e7))))) (.cons (w4.ex (e5.trans (e6.trans e7))) (.cons (w6.ex e7) .nil)))))))))))
      obtain ⟨d, hd, wd⟩ := wl.get hx
      have ok : valOk d = true := by
        have hm := List.mem_of_getElem? hd
        simp only [List.mem_cons, List.not_mem_nil, or_false] at hm
        rcases hm with rfl | rfl | rfl | rfl | rfl | rfl | rfl | rfl | rfl | rfl | rfl | rfl <;> first | rfl | decide +kernel
      exact ⟨d, wd.go g8 (val_of ok).to, ok⟩
    obtain ⟨d, wd, ok⟩ := W
    exact q x d H8 (g1.trans ((e2.trans (e3.trans (e4.trans (e5.trans (e6.trans e7))))).go.trans g8)) hb8 wd ok
/-! ### rows -/
def spRowL (K : PySem.W.Frag) : Sp := fun vs H Q _ => ∃ (b : Addr) (n m : Nat), vs = [.ref b, .int (n : Int), .int (m : Int)] ∧ BoxAt b H ∧ n ≤ 14 ∧ 0 < m ∧ m ≤ 6 ∧ ∀ x p H', Go [b] H H' → BoxAt b H' → Wt K H' x (pageD p) → PageOk p → Q x H'
abbrev s_row : Stmt := top 33
abbrev nms_row : List Str := ["box", "most", "wide", "pairs", "k", "key"]
theorem sc_row : FnScope nms_row ["box", "most", "wide"] (defScope s_row) := ⟨rfl, rfl, rfl, by decide +kernel, rfl, by decide +kernel, by decide +kernel⟩
theorem ok_row {f : Addr} {fd : FuncData} (F : Fun K "_law_row" "_law_row" s_row f fd) (hm : mg "_law_row" = some (.ref f)) (b : Binds K fd ["box", "most", "wide"] []) (T : Bt mg) (c_take : Cal P w K mg base 1 "_law_take" spTake) (c_key : Cal P w K mg base 3 "_law_key" (spKeyL K)) (c_value : Cal P w K mg base 3 "_law_value" (spVal K)) : Cal P w K mg base 4 "_law_row" (spRowL K) := by
  refine cal_of F hm b sc_row (fun vs H Q E h => ?_) (fun cdv A outer s H vs Q E hr h => ?_)
  · obtain ⟨b, n, m, rfl, _⟩ := h
    rfl
  · obtain ⟨b, n, m, rfl, hb, hn, h0, h5, q⟩ := h
    have hu64 := pass_hu64 hr
    have hu1 : (A.deeper (PyProof.Rows.envOfC "_law_row" (defScope s_row) s.heap.objs.size f cdv)).units + 1 < cLine := by have := hr.un; omega
    have hu := hu64
    refine ⟨_, (pss_cons (ps_set (i := 3) sc_row.nd rfl (by first | exact Or.inl rfl | exact Or.inr rfl) pe_dnewT)
    (pss_cons (ps_for (passes_of rfl) rfl (pi_range1 (by rfl) T.range (pa_cons (pe_c c_take hr (by decide) (by rfl) (pa_cons (pv 0) (pa_cons (pe_op (oAddK K) (pv 1) pe_int) pa_nil))) pa_nil)) (pg_name (i := 4) sc_row.nd rfl (by first | exact Or.inl rfl | exact Or.inr rfl))
    (pss_one (ps_dput hu1 (pv 3) (pe_c c_key hr (by decide) (by rfl) (pa_cons (pv 0) (pa_cons (pv 2) pa_nil))) (pe_c c_value hr (by decide) (by rfl) (pa_cons (pv 0) pa_nil)) rfl)))
    (pss_one (ps_ret (pe_callTy cTuple (by rfl) T.tuple (by decide +kernel) (pa_cons (pe_lc (own := [("key", 5)]) rfl sc_row.nd (pi_list (pe_callB (call_sortK rfl hu) (by rfl) T.sorted (by decide +kernel) (pa_cons (pv 3) pa_nil))) (blkOk_by (N := nms_row) (sc := defScope s_row) (by decide +kernel)) (fun _ _ _ _ _ => (pg_name (i := 5) sc_row.nd rfl (by first | exact Or.inl rfl | exact Or.inr rfl))) (fun _ _ _ _ _ => pts_nil) (fun _ _ _ _ _ => (pe_tup (pa_cons (pv 5) (pa_cons (pe_dget hu1 (pv 3) (pv 5) (fun _ _ => rfl)) pa_nil))))) pa_nil)))))), ?_⟩
    try dsimp only [cxOf]
    refine x_seq (x_asg fun D nD => ?_)
    have e1 : Ex H (upd H D (.dT [])) := Ex.new nD
    have hD1 : TabAt K D [] (upd H D (.dT [])) := ⟨[], upd_same, .nil⟩
    revert e1 hD1
    generalize upd H D (.dT []) = H1
    intro e1 hD1
    have hb1 := hb.go e1.go (S := []) (by simp)
    have nDb : D ≠ b := fun z => box_ne hb (by rw [← z]; exact nD)
    walk_at "y"
    rw [show ((n : Int) + 1) = ((n + 1 : Nat) : Int) from by omega]
    refine ⟨b, n + 1, rfl, hb1, by omega, by omega, fun r H2 hr2 g2 hb2 => ?_⟩
    have hD2 : TabAt K D [] H2 := by
      obtain ⟨kvs, e, kv⟩ := hD1
      exact ⟨kvs, g2.keep D _ (by simp [nDb]) e, kv.go g2 (by simp)⟩
    walk_at "y"
    refine y_forR r (fun i σ H' => Go [b] H H' ∧ BoxAt b H' ∧ ∃ (t : Page) (o o2 : Option V), σ = [some (.ref b), some (.int (n : Int)), some (.int (m : Int)), some (.ref D), o, o2] ∧ TabAt K D t H' ∧ TabOk t) (by omega) ⟨e1.go.trans g2, hb2, [], _, _, rfl, hD2, TabOk.nil⟩ (fun i σ H3 hi p => ?_) fun σ H3 p => ?_
    · obtain ⟨g3, hb3, t, o, o2, rfl, hT, ht⟩ := p
      walk_at "y"
      refine ⟨b, rfl, hb3, fun x d H4 g4 hb4 wx hx => ?_⟩
      walk_at "y"
      refine ⟨b, m, rfl, hb4, h0, h5, fun x2 k H5 g5 hb5 wk hk => ?_⟩
      have hT5 : TabAt K D t H5 := by
        obtain ⟨kvs, e, kv⟩ := hT
        exact ⟨kvs, (g4.trans g5).keep D _ (by simp [nDb]) e, kv.go (g4.trans g5) ht.vs⟩
      refine x_kdputT hT5 ht wk hk (wx.go g5 (val_of hx).to) hx fun H6 g6 h6 => ?_
      exact ⟨go_drop nD (g3.trans (g4.trans g5)) g6, hb5.go g6 (by simp [Ne.symm nDb]), _, _, _, rfl, h6, ht.put hk hx⟩
    · obtain ⟨g3, hb3, t, o, o2, rfl, hT, ht⟩ := p
      show tRows K 5 3 _ H3 Q
      exact x_rows hT ht rfl (fun _ => rfl) (fun _ => rfl) (fun _ => rfl) fun v H4 e4 w4 => q v _ H4 (g3.trans e4.go) (hb3.go e4.go (S := []) (by simp)) w4 ht.sort
end
end Y
/-! part C3 -/
/-! The law's own reading of slots. -/
namespace Y
open PySem L2
local macro_rules | `(tactic| walk_at "y1") => `(tactic| (first
  | (with_reducible refine x_seq ?_) | (with_reducible refine x_asg ?_) | (with_reducible refine x_name ?_) | (with_reducible refine x_drop ?_) | (with_reducible refine x_ret ?_) | (with_reducible refine x_retN ?_)
  | (with_reducible refine x_next ?_) | (with_reducible refine x_brk ?_) | (with_reducible refine x_ifS ?_)
  | (with_reducible refine x_c ?_) | (with_reducible refine x_op ?_) | (with_reducible refine x_un ?_) | (with_reducible refine x_cb ?_) | (with_reducible refine x_cons ?_) | (with_reducible refine x_nil ?_)
  | (with_reducible refine x_call ?_) | (with_reducible refine x_tup ?_) | (with_reducible refine x_lst ?_) | (with_reducible refine x_sl ?_) | (with_reducible refine x_nopart ?_) | (with_reducible refine x_part ?_)
  | (with_reducible refine x_andV ?_) | (with_reducible refine x_orV ?_) | (with_reducible refine x_notV ?_) | (with_reducible refine x_if ?_) | (with_reducible refine x_test ?_) | (with_reducible refine x_tb ?_)
  | (with_reducible refine x_and ?_) | (with_reducible refine x_or ?_) | (with_reducible refine x_not ?_) | (with_reducible refine x_chain ?_) | (with_reducible refine x_exbl ?_) | (with_reducible refine x_exint ?_)
  | (with_reducible refine x_fld ?_) | (with_reducible refine x_sfld ?_) | (with_reducible refine x_par ?_) | (with_reducible refine x_par3 ?_) | (with_reducible refine x_dget ?_) | (with_reducible refine x_dput ?_)
  | (with_reducible refine x_bm ?_) | (with_reducible refine x_bm0 ?_) | (with_reducible refine x_pair ?_) | (with_reducible refine x_tri ?_) | (with_reducible refine x_int ?_) | (with_reducible refine x_intb ?_) | (with_reducible refine x_abs ?_) | (with_reducible refine x_isN ?_) | (with_reducible refine x_notN ?_) | (with_reducible refine x_meth ?_) | (with_reducible refine x_make ?_)
  | (with_reducible refine x_ite1 ?_) | (with_reducible refine x_ite0 ?_)
  | (with_reducible refine x_addi ?_) | (with_reducible refine x_neg ?_) | (with_reducible refine x_i0 ?_) | (with_reducible refine x_eqi ?_) | (with_reducible refine x_eqs ?_) | (with_reducible refine x_eqb ?_) | (with_reducible refine x_nei ?_) | (with_reducible refine x_lti ?_)
  | (with_reducible refine x_forL ?_) | (with_reducible refine x_forT ?_) | (with_reducible refine x_forR ?_) | (with_reducible refine x_forR2 ?_) | (with_reducible refine x_lcL ?_) | (with_reducible refine x_lcT ?_) | (with_reducible refine x_lcR ?_)
  | (with_reducible refine x_yes ?_) | (with_reducible refine x_pcons ?_) | (with_reducible refine x_pnil ?_) | (with_reducible refine x_gcons ?_) | (with_reducible refine x_gnil ?_) | (with_reducible refine x_gattr ?_) | (with_reducible refine x_raise ?_) | (with_reducible refine x_gsub ?_) | (with_reducible refine x_fldaug ?_) | (with_reducible refine x_radd ?_) | (with_reducible refine x_ipi ?_) | ((with_reducible refine x_aug (x := ?vv) ?hh ?qq); (case hh => exact rfl))
  | ((with_reducible refine x_iteA ?hc ?q); (case hc => exact rfl)) | ((with_reducible refine x_iteB ?hc ?q); (case hc => exact rfl))
  | ((with_reducible refine x_var (v := ?vv) ?hh ?qq); (case hh => exact rfl))
  | ((with_reducible refine r_isInt (d := ?dd) ?hh ?qq); (case hh => assumption)) | ((with_reducible refine r_isBool (d := ?dd) ?hh ?qq); (case hh => assumption)) | ((with_reducible refine r_isTup (d := ?dd) ?hh ?qq); (case hh => assumption))
  | ((with_reducible refine r_isStr (d := ?dd) ?hh ?qq); (case hh => assumption)) | ((with_reducible refine r_isLst (d := ?dd) ?hh ?qq); (case hh => assumption))))
local macro_rules | `(tactic| walk_at "y") => `(tactic| (repeat (walk_at "y1")))
theorem putAll_append (t a b : Page) : putAll t (a ++ b) = putAll (putAll t a) b := by unfold putAll; rw [List.foldl_append]
theorem cut_mid {α : Type} (xs : List V) (a c : Nat) (h : c ≤ xs.length) (h' : a ≤ c) : cutV xs (some (a : Int)) (some (c : Int)) = (xs.drop a).take (c - a) := by
  unfold cutV
  rw [HT.sIx_nat, HT.sIx_nat, Nat.min_eq_left h, Nat.min_eq_left (by omega)]
section
variable {P : Program} {w : World} {K : PySem.W.Frag} {mg : Str → Option Value} {base : Heap}
abbrev s_over : Stmt := top 35
abbrev nms_over : List Str := ["page", "row", "pairs", "key", "value"]
theorem sc_over : FnScope nms_over ["page", "row"] (defScope s_over) := ⟨rfl, rfl, rfl, by decide +kernel, rfl, by decide +kernel, by decide +kernel⟩
theorem ok_over {f : Addr} {fd : FuncData} (F : Fun K "_law_over" "_law_over" s_over f fd) (hm : mg "_law_over" = some (.ref f)) (b : Binds K fd ["page", "row"] []) (T : Bt mg) : Cal P w K mg base 1 "_law_over" (spOver K) := by
  refine cal_of F hm b sc_over (fun vs H Q E h => ?_) (fun cdv A outer s H vs Q E hr h => ?_)
  · obtain ⟨x, y, p, r, rfl, _⟩ := h
    rfl
  · obtain ⟨x, y, p, r, rfl, wx, wy, hp, hr2, q⟩ := h
    have hu64 := pass_hu64 hr
    have hu1 : (A.deeper (PyProof.Rows.envOfC "_law_over" (defScope s_over) s.heap.objs.size f cdv)).units + 1 < cLine := by have := hr.un; omega
    have hu := hu64
    refine ⟨_, (pss_cons (ps_set (i := 2) sc_over.nd rfl (by first | exact Or.inl rfl | exact Or.inr rfl) pe_dnewT)
    (pss_cons (ps_for (passes_of rfl) rfl (pi_list (pe_op (oAddK K) (pe_callTy cList (by rfl) T.list (by decide +kernel) (pa_cons (pv 0) pa_nil)) (pe_callTy cList (by rfl) T.list (by decide +kernel) (pa_cons (pv 1) pa_nil)))) (pg_tup (n := 2) rfl (pgs_cons (pg_name (i := 3) sc_over.nd rfl (by first | exact Or.inl rfl | exact Or.inr rfl)) (pgs_cons (pg_name (i := 4) sc_over.nd rfl (by first | exact Or.inl rfl | exact Or.inr rfl)) pgs_nil)))
    (pss_one (ps_dput hu1 (pv 2) (pv 3) (pv 4) rfl)))
    (pss_one (ps_ret (pe_callTy cTuple (by rfl) T.tuple (by decide +kernel) (pa_cons (pe_lc (own := [("key", 3)]) rfl sc_over.nd (pi_list (pe_callB (call_sortK rfl hu) (by rfl) T.sorted (by decide +kernel) (pa_cons (pv 2) pa_nil))) (blkOk_by (N := nms_over) (sc := defScope s_over) (by decide +kernel)) (fun _ _ _ _ _ => (pg_name (i := 3) sc_over.nd rfl (by first | exact Or.inl rfl | exact Or.inr rfl))) (fun _ _ _ _ _ => pts_nil) (fun _ _ _ _ _ => (pe_tup (pa_cons (pv 3) (pa_cons (pe_dget hu1 (pv 2) (pv 3) (fun _ _ => rfl)) pa_nil))))) pa_nil)))))), ?_⟩
    try dsimp only [cxOf]
    refine x_seq (x_asg fun D nD => ?_)
    have e1 : Ex H (upd H D (.dT [])) := Ex.new nD
    have hD1 : TabAt K D [] (upd H D (.dT [])) := ⟨[], upd_same, .nil⟩
    revert e1 hD1
    generalize upd H D (.dT []) = H1
    intro e1 hD1
    have wx1 := wx.ex e1
    have wy1 := wy.ex e1
    cases wx1 with
    | @tup a xs _ ea wa =>
    cases wy1 with
    | @tup b ys _ eb wb =>
    walk_at "y"
    refine x_lstt ea fun p2 H2 e2 n2 h2 => ?_
    walk_at "y"
    refine x_lstt (e2 _ _ eb) fun p3 H3 e3 n3 h3 => ?_
    have lx : xs.length = p.length := by rw [wa.len, List.length_map]
    have ly : ys.length = r.length := by rw [wb.len, List.length_map]
    have lp := hp.len
    have lr := hr2.len
    refine x_addl (e3 _ _ h2) h3 (by omega) fun p4 H4 e4 n4 h4 => ?_
    have e14 := e2.trans (e3.trans e4)
    have wab : WtL K H4 (xs ++ ys) ((p ++ r).map pairD) := by
      rw [List.map_append]
      exact (wa.ex e14).append (wb.ex e14)
    have hD4 : TabAt K D [] H4 := by
      obtain ⟨kvs, e, kv⟩ := hD1
      exact ⟨kvs, e14 _ _ e, kv.go (S := []) e14.go (by simp)⟩
    have ks : ∀ kv ∈ p ++ r, kv.1 ∈ uni := fun kv m => (List.mem_append.mp m).elim (hp.ks kv) (hr2.ks kv)
    have vs : ∀ kv ∈ p ++ r, valOk kv.2 = true := fun kv m => (List.mem_append.mp m).elim (hp.vs kv) (hr2.vs kv)
    have tok : ∀ i, TabOk (putAll [] ((p ++ r).take i)) := fun i => TabOk.nil.putAll (fun kv m => ks kv (List.mem_of_mem_take m)) fun kv m => vs kv (List.mem_of_mem_take m)
    have n4D : p4 ≠ D := fun z => by
      obtain ⟨kvs, e, _⟩ := hD1
      have := (e2.trans e3) _ _ e
      rw [← z, n4] at this
      cases this
    have E4 : Ex H H4 := e1.trans e14
    refine y_forL (fun i σ H' => Ex H H' ∧ H' p4 = some (.lst (xs ++ ys)) ∧ WtL K H' (xs ++ ys) ((p ++ r).map pairD) ∧ ∃ (o o2 : Option V), σ = [some (.ref a), some (.ref b), some (.ref D), o, o2] ∧ TabAt K D (putAll [] ((p ++ r).take i)) H') h4 ⟨E4, h4, wab, _, _, rfl, hD4⟩ (fun i σ H' p => p.2.1) (fun i x σ H5 hx q5 => ?_) fun σ H5 q5 => ?_
    · obtain ⟨e5, h5, w5, o, o2, rfl, hT⟩ := q5
      obtain ⟨kv, hkv, wx⟩ := pair_at w5 hx
      have hm := List.mem_of_getElem? hkv
      unfold pairD at wx
      cases wx with
      | @tup a6 zs _ ea6 wa6 =>
      cases wa6 with
      | @cons u0 _ _ _ wu0 wa6 =>
      cases wa6 with
      | @cons u1 _ _ _ wu1 wa6 =>
      cases wa6
      refine x_gtup ea6 rfl ?_
      walk_at "y"
      refine x_kdputT hT (tok i) wu0 (ks kv hm) wu1 (vs kv hm) fun H6 g6 h6 => ?_
      have wto : tupOnlyL ((p ++ r).map pairD) = true := tupOnlyL_iff.mpr fun d hd => by
        obtain ⟨z, hz, rfl⟩ := List.mem_map.mp hd
        exact pairD_to (vs z hz)
      refine ⟨ex_of_go e5 nD g6, g6.keep p4 _ (by simp [n4D]) h5, w5.go g6 wto, _, _, rfl, ?_⟩
      rw [take_snoc hkv, putAll_snoc]
      exact h6
    · obtain ⟨e5, h5, w5, o, o2, rfl, hT⟩ := q5
      have hl : (xs ++ ys).length = (p ++ r).length := by rw [List.length_append, List.length_append, lx, ly]
      rw [hl, List.take_length] at hT
      have tk := tok (p ++ r).length
      rw [List.take_length] at tk
      show tRows K 3 2 _ H5 Q
      exact x_rows hT tk rfl (fun _ => rfl) (fun _ => rfl) (fun _ => rfl) fun v H6 e6 w6 => q v _ (e5.trans e6) (by rw [putAll_append] at w6; exact w6)
/-! ### half -/
def spHalfL (K : PySem.W.Frag) : Sp := fun vs H Q _ => ∃ l xs S half M r, vs = [.ref l, .int ((half : Nat) : Int)] ∧ H l = some (.lst xs) ∧ WtL K H xs (S.map slD) ∧ S.length = 2 * M ∧ half ≤ 1 ∧ 2 ≤ M ∧ M ≤ 32 ∧ (∀ s ∈ S, SlotOk s) ∧ RH S M (half * M) r ∧ ∀ u H', Ex H H' → Wt K H' u (rhD half r) → Q u H'
abbrev s_half : Stmt := top 36
abbrev nms_half : List Str := ["slots", "half", "size", "row", "page", "last", "k"]
theorem sc_half : FnScope nms_half ["slots", "half"] (defScope s_half) := ⟨rfl, rfl, rfl, by decide +kernel, rfl, by decide +kernel, by decide +kernel⟩
theorem ok_half {f : Addr} {fd : FuncData} (F : Fun K "_law_half" "_law_half" s_half f fd) (hm : mg "_law_half" = some (.ref f)) (b : Binds K fd ["slots", "half"] []) (T : Bt mg) (c_over : Cal P w K mg base 1 "_law_over" (spOver K)) : Cal P w K mg base 2 "_law_half" (spHalfL K) := by
  refine cal_of F hm b sc_half (fun vs H Q E h => ?_) (fun cdv A outer s H vs Q E hr h => ?_)
  · obtain ⟨l, xs, S, half, M, r, rfl, _⟩ := h
    rfl
  · obtain ⟨l, xs, S, half, M, r, rfl, hl, hv, hS, hh, m1, m2, so, rh, q⟩ := h
    have hu64 := pass_hu64 hr
    refine ⟨_, (pss_cons (ps_set (i := 2) sc_half.nd rfl (by first | exact Or.inl rfl | exact Or.inr rfl) (pe_op op_fdivN (pe_callB cLen (by rfl) T.len (by decide +kernel) (pa_cons (pv 0) pa_nil)) pe_int))
    (pss_cons (ps_set (i := 3) sc_half.nd rfl (by first | exact Or.inl rfl | exact Or.inr rfl) (pe_slice (oSlK K) (pv 0) (po_some (pe_op oMul (pv 1) (pv 2))) (po_some (pe_op (oAddK K) (pe_op oMul (pv 1) (pv 2)) (pv 2)))))
    (pss_cons (ps_if (PW.pt (pw_or (pt_cmpR (oEqK K hu64) (pe_ix (oIxK K) (pv 3) pe_int (fun _ _ => rfl)) (pe_tup pa_nil) (nomark _)) (pw_or1 (pt_cmpR (oNeK K hu64) (pe_ix (oIxK K) (pe_ix (oIxK K) (pv 3) pe_int (fun _ _ => rfl)) pe_int (fun _ _ => rfl)) pe_int (nomark _)))))
    (pss_one (ps_ret pe_non))
    pss_nil)
    (pss_cons (ps_par rfl sc_half.nd (i := 4) (j := 5) rfl rfl (by decide) rfl rfl (pa_cons (pe_ix (oIxK K) (pe_ix (oIxK K) (pv 3) pe_int (fun _ _ => rfl)) pe_int (fun _ _ => rfl)) (pa_cons pe_int pa_nil)) (by rfl))
    (pss_cons (ps_for (passes_of rfl) rfl (pi_range2 (by rfl) T.range (pa_cons pe_int (pa_cons (pv 2) pa_nil))) (pg_name (i := 6) sc_half.nd rfl (by first | exact Or.inl rfl | exact Or.inr rfl))
    (pss_cons (ps_if (PW.pt (pw_or (pt_cmpR (oEqK K hu64) (pe_ix (oIxK K) (pv 3) (pv 6) (fun _ _ => rfl)) (pe_tup pa_nil) (nomark _)) (pw_or (pt_cmpR (oNeK K hu64) (pe_ix (oIxK K) (pe_ix (oIxK K) (pv 3) (pv 6) (fun _ _ => rfl)) pe_int (fun _ _ => rfl)) (pe_ix (oIxK K) (pe_ix (oIxK K) (pv 3) pe_int (fun _ _ => rfl)) pe_int (fun _ _ => rfl)) (nomark _)) (pw_or (pt_cmpR (oNeK K hu64) (pe_ix (oIxK K) (pe_ix (oIxK K) (pv 3) (pv 6) (fun _ _ => rfl)) pe_int (fun _ _ => rfl)) (pv 6) (nomark _)) (pw_or1 (pt_cmpR (oLtK K hu64) (pe_ix (oIxK K) (pe_ix (oIxK K) (pv 3) (pv 6) (fun _ _ => rfl)) pe_int (fun _ _ => rfl)) (pe_ix (oIxK K) (pe_ix (oIxK K) (pv 3) (pe_op op_sub (pv 6) pe_int) (fun _ _ => rfl)) pe_int (fun _ _ => rfl)) (nomark _)))))))
    (pss_one (ps_ret (pe_tup (pa_cons (pe_ix (oIxK K) (pe_ix (oIxK K) (pv 3) pe_int (fun _ _ => rfl)) pe_int (fun _ _ => rfl)) (pa_cons (pv 1) (pa_cons (pv 5) (pa_cons (pv 4) pa_nil)))))))
    pss_nil)
    (pss_one (ps_par rfl sc_half.nd (i := 4) (j := 5) rfl rfl (by decide) rfl rfl (pa_cons (pe_c c_over hr (by decide) (by rfl) (pa_cons (pv 4) (pa_cons (pe_ix (oIxK K) (pe_ix (oIxK K) (pv 3) (pv 6) (fun _ _ => rfl)) pe_int (fun _ _ => rfl)) pa_nil))) (pa_cons (pv 6) pa_nil)) (by rfl)))))
    (pss_one (ps_ret (pe_tup (pa_cons (pe_ix (oIxK K) (pe_ix (oIxK K) (pv 3) pe_int (fun _ _ => rfl)) pe_int (fun _ _ => rfl)) (pa_cons (pv 1) (pa_cons (pv 5) (pa_cons (pv 4) pa_nil)))))))))))), ?_⟩
    try dsimp only [cxOf]
    have hx : xs.length = 2 * M := by rw [hv.len, List.length_map, hS]
    walk_at "y"
    refine x_lenl hl ?_
    walk_at "y"
    refine x_iC (cdiv2 _) ?_
    rw [hx, fdiv2, show 2 * M / 2 = M by omega]
    walk_at "y"
    refine x_muli (cmulR _ (by omega)) ?_
    walk_at "y"
    refine x_muli (cmulR _ (by omega)) ?_
    walk_at "y"
    rw [show ((half : Int) * (M : Int)) = ((half * M : Nat) : Int) from by push_cast; rfl, show (((half * M : Nat) : Int) + (M : Int)) = ((half * M + M : Nat) : Int) from by push_cast; rfl]
    have hbM : half * M + M ≤ 2 * M := by
      have : half * M ≤ 1 * M := Nat.mul_le_mul_right _ hh
      omega
    generalize hbb : half * M = bb at *
    refine x_sll hl fun p1 H1 e1 n1 h1 => ?_
    rw [cut_mid (α := V) _ _ _ (by omega) (by omega), show bb + M - bb = M by omega] at h1
    have ats : ∀ i, i < M → ∃ s x, S[bb + i]? = some s ∧ ((xs.drop bb).take M)[i]? = some x ∧ Wt K H x (slD s) ∧ SlotOk s := fun i hi => by
      obtain ⟨s, hs⟩ : ∃ s, S[bb + i]? = some s := ⟨_, List.getElem?_eq_getElem (by omega)⟩
      obtain ⟨x, hx1, hx2⟩ := hv.getD (slot_at hs)
      refine ⟨s, x, hs, ?_, hx2, so s (List.mem_of_getElem? hs)⟩
      rw [List.getElem?_take_of_lt hi, List.getElem?_drop]
      exact hx1
    obtain ⟨s0, x0, hs0, hx0, wx0, sok⟩ := ats 0 (by omega)
    rw [Nat.add_zero] at hs0
    walk_at "y"
    refine x_ixl h1 (n := 0) rfl hx0 ?_
    walk_at "y"
    refine x_mkt (K := K) .nil fun u2 H2 e2 w2 => ?_
    have E2 := e1.trans e2
    refine x_eqd (wx0.ex E2) w2 (lay_slot sok).shaped rfl ?_
    have h2 := e2 _ _ h1
    cases s0 with
    | none =>
      rw [show PyData.eqv (slD none) (.tuple []) = true from rfl]
      walk_at "y"
      have hr0 : r = none := by
        cases rh with
        | none => rfl
        | some h =>
          obtain ⟨es, pg, h, _⟩ := h
          have := h.at_ 0 (Nat.zero_le _)
          rw [Nat.add_zero, hs0] at this
          cases this
      subst hr0
      exact q _ _ E2 .non
    | some e0 =>
      rw [show PyData.eqv (slD (some e0)) (.tuple []) = false from rfl]
      walk_at "y"
      refine x_ixl h2 (n := 0) rfl hx0 ?_
      walk_at "y"
      have whd2 : Wt K H2 x0 (entD e0) := wx0.ex E2
      refine x_ixd (n := 2) (d := .int (e0.n : Int)) whd2 rfl rfl fun u3 wu3 => ?_
      cases wu3
      walk_at "y"
      cases rh with
      | none hh0 =>
        have hn0 := hh0 e0 hs0
        rw [show decide ((e0.n : Int) = 0) = false from decide_eq_false (by omega)]
        walk_at "y"
        exact q _ _ E2 .non
      | @some g last page rd =>
        obtain ⟨es, pg, rd, hpg⟩ := rd
        have h0 := rd.at_ 0 (Nat.zero_le _)
        rw [Nat.add_zero, hs0] at h0
        cases h0
        have hlt := rd.lt
        rw [show decide (((es 0).n : Int) = 0) = true from decide_eq_true (by rw [rd.hn 0 (Nat.zero_le _)]; rfl)]
        walk_at "y"
        refine x_ixl h2 (n := 0) rfl hx0 ?_
        walk_at "y"
        refine x_ixd (n := 3) (d := pageD (es 0).p) whd2 rfl rfl fun u4 wu4 => ?_
        walk_at "y"
        have hok : ∀ i, i ≤ last → PageOk (pg i) := rd.page so
        -- the end
        have fin : ∀ (σ : L2.St) (i : Nat) pv H3, Ex H2 H3 → i = last → Wt K H3 pv (pageD (pg i)) → σ[3]? = some (some (.ref p1)) → σ[1]? = some (some (.int (half : Int))) → σ[5]? = some (some (.int (i : Int))) → σ[4]? = some (some pv) →
            rIxU K (.ref p1) (.int 0) H3 fun x H1 => tC (.int 0) σ H1 fun y H2 => rIxU K x y H2 fun x H1 => tCons (tVar 1) (tCons (tVar 5) (tCons (tVar 4) tNil)) σ H1 fun xs H2 => mkT (x :: xs) H2 Q := fun σ i pv H3 e3 hil wp z1 z2 z3 z4 => by
          subst hil
          refine x_ixl (e3 _ _ h2) (n := 0) rfl hx0 ?_
          refine x_c (x_ixd (n := 0) (d := .int ((es 0).g : Int)) (whd2.ex e3) rfl rfl fun u4 wu4 => ?_)
          cases wu4
          refine x_cons (x_var z2 (x_cons (x_var z3 (x_cons (x_var z4 (x_nil ?_))))))
          refine x_mkt (.cons (.int _) (.cons (.int _) (.cons (.int _) (.cons wp .nil)))) fun u5 H5 e5 w5 => ?_
          rw [rd.hg 0 (Nat.zero_le _), hpg] at w5
          exact q u5 H5 (E2.trans (e3.trans e5)) w5
        refine y_forR2 1 (M - 1) (fun j σ H' => Ex H2 H' ∧ ∃ (pv : V) (ok2 : Option V), j ≤ last ∧ σ = [some (.ref l), some (.int (half : Int)), some (.int (M : Int)), some (.ref p1), some pv, some (.int (j : Int)), ok2] ∧ Wt K H' pv (pageD (pg j))) (by omega) (by omega) ⟨Ex.refl _, u4, _, Nat.zero_le _, rfl, by rw [rd.p0]; exact wu4⟩ (fun j σ H3 hj p => ?_) fun σ H3 p => ?_
        · obtain ⟨e3, pv, ok2, hjl, rfl, wp⟩ := p
          obtain ⟨s1, x1, hs1, hx1, wx1, sok1⟩ := ats (1 + j) (by omega)
          obtain ⟨sa, xa, hsa, hxa, wxa, soka⟩ := ats j (by omega)
          rw [rd.at_ j hjl] at hsa
          cases hsa
          have h3 := e3 _ _ h2
          have E3 := E2.trans e3
          walk_at "y"
          refine x_ixl h3 (n := 1 + j) (by omega) hx1 ?_
          walk_at "y"
          refine x_mkt (K := K) .nil fun u6 H6 e6 w6 => ?_
          have h6 := e6 _ _ h3
          have E6 := E3.trans e6
          refine x_eqd (wx1.ex E6) w6 (lay_slot sok1).shaped rfl ?_
          have stop : (∀ e, s1 = some e → ¬ (e.g = g ∧ e.n = j + 1 ∧ (es j).l ≤ e.l)) → j = last := fun hno => by
            rcases Nat.lt_or_eq_of_le hjl with hlt2 | h
            · have h1 := rd.at_ (j + 1) hlt2
              rw [show bb + (j + 1) = bb + (1 + j) by omega, hs1] at h1
              cases h1
              exact absurd ⟨rd.hg _ hlt2, rd.hn _ hlt2, rd.hl j hlt2⟩ (hno _ rfl)
            · exact h
          cases s1 with
          | none =>
            rw [show PyData.eqv (slD none) (.tuple []) = true from rfl]
            walk_at "y"
            exact fin _ j pv H6 (e3.trans e6) (stop (fun _ z => by cases z)) (wp.ex e6) rfl rfl rfl rfl
          | some e =>
            rw [show PyData.eqv (slD (some e)) (.tuple []) = false from rfl]
            have we6 : Wt K H6 x1 (entD e) := wx1.ex E6
            have wa6 : Wt K H6 xa (entD (es j)) := wxa.ex E6
            walk_at "y"
            refine x_ixl h6 (n := 1 + j) (by omega) hx1 ?_
            walk_at "y"
            refine x_ixd (n := 0) (d := .int (e.g : Int)) we6 rfl rfl fun u7 w7 => ?_
            cases w7
            walk_at "y"
            refine x_ixl h6 (n := 0) rfl hx0 ?_
            walk_at "y"
            refine x_ixd (n := 0) (d := .int ((es 0).g : Int)) (whd2.ex (e3.trans e6)) rfl rfl fun u8 w8 => ?_
            cases w8
            walk_at "y"
            rw [rd.hg 0 (Nat.zero_le _)]
            by_cases c1 : e.g = g
            · rw [show decide ((e.g : Int) = g) = true from decide_eq_true (by omega)]
              walk_at "y"
              refine x_ixl h6 (n := 1 + j) (by omega) hx1 ?_
              walk_at "y"
              refine x_ixd (n := 2) (d := .int (e.n : Int)) we6 rfl rfl fun u9 w9 => ?_
              cases w9
              walk_at "y"
              by_cases c2 : e.n = j + 1
              · rw [show decide ((e.n : Int) = ((1 + j : Nat) : Int)) = true from decide_eq_true (by omega)]
                walk_at "y"
                refine x_ixl h6 (n := 1 + j) (by omega) hx1 ?_
                walk_at "y"
                refine x_ixd (n := 1) (d := .int (e.l : Int)) we6 rfl rfl fun u10 w10 => ?_
                cases w10
                walk_at "y"
                try refine x_i0 ?_
                try dsimp only
                refine x_ixl h6 (i := ((1 + j : Nat) : Int) - 1) (n := j) (by omega) hxa ?_
                walk_at "y"
                refine x_ixd (n := 1) (d := .int ((es j).l : Int)) wa6 rfl rfl fun u11 w11 => ?_
                cases w11
                refine .inl ?_
                walk_at "y"
                by_cases c3 : (es j).l ≤ e.l
                · rw [show decide ((e.l : Int) < (es j).l) = false from decide_eq_false (by omega)]
                  have hil : j < last := by
                    rcases Nat.lt_or_eq_of_le hjl with h | h
                    · exact h
                    · subst h
                      exact absurd ⟨c1, c2, c3⟩ (rd.stop (by omega) e (by rw [show bb + (j + 1) = bb + (1 + j) by omega]; exact hs1))
                  have he : es (j + 1) = e := by
                    have h1 := rd.at_ (j + 1) hil
                    rw [show bb + (j + 1) = bb + (1 + j) by omega, hs1] at h1
                    cases h1
                    rfl
                  walk_at "y"
                  refine x_ixl h6 (n := 1 + j) (by omega) hx1 ?_
                  walk_at "y"
                  refine x_ixd (n := 3) (d := pageD e.p) we6 rfl rfl fun u12 w12 => ?_
                  walk_at "y"
                  refine ⟨pv, u12, pg j, e.p, rfl, wp.ex e6, w12, hok j hjl, sok1 e rfl, fun u13 H7 e7 w13 => ?_⟩
                  walk_at "y"
                  refine ⟨e3.trans (e6.trans e7), u13, _, hil, by rw [show 1 + j = j + 1 by omega]; rfl, ?_⟩
                  rw [rd.pS j hil, he]
                  exact w13
                · rw [show decide ((e.l : Int) < (es j).l) = true from decide_eq_true (by omega)]
                  walk_at "y"
                  exact fin _ j pv H6 (e3.trans e6) (stop fun e' z h => by cases z; exact c3 h.2.2) (wp.ex e6) rfl rfl rfl rfl
              · rw [show decide ((e.n : Int) = ((1 + j : Nat) : Int)) = false from decide_eq_false (by omega)]
                walk_at "y"
                exact fin _ j pv H6 (e3.trans e6) (stop fun e' z h => by cases z; exact c2 h.2.1) (wp.ex e6) rfl rfl rfl rfl
            · rw [show decide ((e.g : Int) = g) = false from decide_eq_false (by omega)]
              walk_at "y"
              exact fin _ j pv H6 (e3.trans e6) (stop fun e' z h => by cases z; exact c1 h.1) (wp.ex e6) rfl rfl rfl rfl
        · obtain ⟨e3, pv, ok2, hjl, rfl, wp⟩ := p
          walk_at "y"
          exact fin _ (M - 1) pv H3 e3 (by omega) wp rfl rfl rfl rfl
end
end Y
/-! part C4 -/
/-! The law's own disk and book. -/
namespace Y
open PySem L2
local macro_rules | `(tactic| walk_at "y1") => `(tactic| (first
  | (with_reducible refine x_seq ?_) | (with_reducible refine x_asg ?_) | (with_reducible refine x_name ?_) | (with_reducible refine x_drop ?_) | (with_reducible refine x_ret ?_) | (with_reducible refine x_retN ?_)
  | (with_reducible refine x_next ?_) | (with_reducible refine x_brk ?_) | (with_reducible refine x_ifS ?_)
  | (with_reducible refine x_c ?_) | (with_reducible refine x_op ?_) | (with_reducible refine x_un ?_) | (with_reducible refine x_cb ?_) | (with_reducible refine x_cons ?_) | (with_reducible refine x_nil ?_)
  | (with_reducible refine x_call ?_) | (with_reducible refine x_tup ?_) | (with_reducible refine x_lst ?_) | (with_reducible refine x_sl ?_) | (with_reducible refine x_nopart ?_) | (with_reducible refine x_part ?_)
  | (with_reducible refine x_andV ?_) | (with_reducible refine x_orV ?_) | (with_reducible refine x_notV ?_) | (with_reducible refine x_if ?_) | (with_reducible refine x_test ?_) | (with_reducible refine x_tb ?_)
  | (with_reducible refine x_and ?_) | (with_reducible refine x_or ?_) | (with_reducible refine x_not ?_) | (with_reducible refine x_chain ?_) | (with_reducible refine x_exbl ?_) | (with_reducible refine x_exint ?_)
  | (with_reducible refine x_fld ?_) | (with_reducible refine x_sfld ?_) | (with_reducible refine x_par ?_) | (with_reducible refine x_par3 ?_) | (with_reducible refine x_dget ?_) | (with_reducible refine x_dput ?_)
  | (with_reducible refine x_bm ?_) | (with_reducible refine x_bm0 ?_) | (with_reducible refine x_pair ?_) | (with_reducible refine x_tri ?_) | (with_reducible refine x_int ?_) | (with_reducible refine x_intb ?_) | (with_reducible refine x_abs ?_) | (with_reducible refine x_isN ?_) | (with_reducible refine x_notN ?_) | (with_reducible refine x_meth ?_) | (with_reducible refine x_make ?_)
  | (with_reducible refine x_ite1 ?_) | (with_reducible refine x_ite0 ?_)
  | (with_reducible refine x_addi ?_) | (with_reducible refine x_neg ?_) | (with_reducible refine x_i0 ?_) | (with_reducible refine x_eqi ?_) | (with_reducible refine x_eqs ?_) | (with_reducible refine x_eqb ?_) | (with_reducible refine x_nei ?_) | (with_reducible refine x_lti ?_)
  | (with_reducible refine x_forL ?_) | (with_reducible refine x_forT ?_) | (with_reducible refine x_forR ?_) | (with_reducible refine x_forR2 ?_) | (with_reducible refine x_lcL ?_) | (with_reducible refine x_lcT ?_) | (with_reducible refine x_lcR ?_)
  | (with_reducible refine x_yes ?_) | (with_reducible refine x_pcons ?_) | (with_reducible refine x_pnil ?_) | (with_reducible refine x_gcons ?_) | (with_reducible refine x_gnil ?_) | (with_reducible refine x_gattr ?_) | (with_reducible refine x_raise ?_) | (with_reducible refine x_gsub ?_) | (with_reducible refine x_fldaug ?_) | (with_reducible refine x_radd ?_) | (with_reducible refine x_ipi ?_) | ((with_reducible refine x_aug (x := ?vv) ?hh ?qq); (case hh => exact rfl))
  | ((with_reducible refine x_iteA ?hc ?q); (case hc => exact rfl)) | ((with_reducible refine x_iteB ?hc ?q); (case hc => exact rfl))
  | ((with_reducible refine x_var (v := ?vv) ?hh ?qq); (case hh => exact rfl))
  | ((with_reducible refine r_isInt (d := ?dd) ?hh ?qq); (case hh => assumption)) | ((with_reducible refine r_isBool (d := ?dd) ?hh ?qq); (case hh => assumption)) | ((with_reducible refine r_isTup (d := ?dd) ?hh ?qq); (case hh => assumption))
  | ((with_reducible refine r_isStr (d := ?dd) ?hh ?qq); (case hh => assumption)) | ((with_reducible refine r_isLst (d := ?dd) ?hh ?qq); (case hh => assumption))))
local macro_rules | `(tactic| walk_at "y") => `(tactic| (repeat (walk_at "y1")))
section
variable {P : Program} {w : World} {K : PySem.W.Frag} {mg : Str → Option Value} {base : Heap}
def spReadL (K : PySem.W.Frag) : Sp := fun vs H Q _ => ∃ l xs S M r0 r1, vs = [.ref l] ∧ H l = some (.lst xs) ∧ WtL K H xs (S.map slD) ∧ S.length = 2 * M ∧ 2 ≤ M ∧ M ≤ 32 ∧ (∀ s ∈ S, SlotOk s) ∧ RH S M 0 r0 ∧ RH S M M r1 ∧ ∀ u H', Ex H H' → Wt K H' u (foundD (pickH r0 r1)) → Q u H'
abbrev s_read : Stmt := top 37
abbrev nms_read : List Str := ["slots", "one", "other"]
theorem sc_read : FnScope nms_read ["slots"] (defScope s_read) := ⟨rfl, rfl, rfl, by decide +kernel, rfl, by decide +kernel, by decide +kernel⟩
theorem ok_read {f : Addr} {fd : FuncData} (F : Fun K "_law_read" "_law_read" s_read f fd) (hm : mg "_law_read" = some (.ref f)) (b : Binds K fd ["slots"] []) (T : Bt mg) (c_half : Cal P w K mg base 2 "_law_half" (spHalfL K)) : Cal P w K mg base 3 "_law_read" (spReadL K) := by
  refine cal_of F hm b sc_read (fun vs H Q E h => ?_) (fun cdv A outer s H vs Q E hr h => ?_)
  · obtain ⟨v, xs, S, M, r0, r1, rfl, _⟩ := h
    rfl
  · obtain ⟨l, xs, S, M, r0, r1, rfl, hl, hv, hS, m1, m2, so, h0, h1, q⟩ := h
    have hu64 := pass_hu64 hr
    refine ⟨_, (pss_cons (ps_par rfl sc_read.nd (i := 1) (j := 2) rfl rfl (by decide) rfl rfl (pa_cons (pe_c c_half hr (by decide) (by rfl) (pa_cons (pv 0) (pa_cons pe_int pa_nil))) (pa_cons (pe_c c_half hr (by decide) (by rfl) (pa_cons (pv 0) (pa_cons pe_int pa_nil))) pa_nil)) (by rfl))
    (pss_cons (ps_if (PW.pt (pw_or (pt_cmpR op_isN1 (pv 1) pe_non (nomark _)) (pw_or1 (PW.pt (pw_and (pt_cmpR op_notN1 (pv 2) pe_non (nomark _)) (pw_and1 (pt_cmpR op_gt (pe_ix (oIxK K) (pv 2) pe_int (fun _ _ => rfl)) (pe_ix (oIxK K) (pv 1) pe_int (fun _ _ => rfl)) (nomark _))))))))
    (pss_one (ps_ret (pv 2)))
    pss_nil)
    (pss_one (ps_ret (pv 1))))), ?_⟩
    try dsimp only [cxOf]
    have tS : tupOnlyL (S.map slD) = true := (lay_slots so).to
    walk_at "y"
    refine ⟨l, xs, S, 0, M, r0, rfl, hl, hv, hS, by omega, m1, m2, so, by rw [Nat.zero_mul]; exact h0, fun u0 H1 e1 w0 => ?_⟩
    walk_at "y"
    refine ⟨l, xs, S, 1, M, r1, rfl, e1 _ _ hl, hv.ex e1, hS, by omega, m1, m2, so, by rw [Nat.one_mul]; exact h1, fun u1 H2 e2 w1 => ?_⟩
    have ex2 := e1.trans e2
    have w0 := w0.ex e2
    cases r0 with
    | none =>
      cases w0
      walk_at "y"
      refine q _ _ ex2 ?_
      cases r1 with
      | none => exact w1
      | some r => exact w1
    | some r =>
      obtain ⟨g, l, p⟩ := r
      have w0' := w0
      cases w0' with
      | @tup a0 xs0 _ ea0 wa0 =>
      cases r1 with
      | none =>
        cases w1
        walk_at "y"
        exact q _ _ ex2 w0
      | some r' =>
        obtain ⟨g', l', p'⟩ := r'
        have w1' := w1
        cases w1' with
        | @tup a1 xs1 _ ea1 wa1 =>
        walk_at "y"
        refine x_ixd (n := 0) (d := .int (g' : Int)) w1 rfl rfl fun u9 w9 => ?_
        cases w9
        walk_at "y"
        refine x_ixd (n := 0) (d := .int (g : Int)) w0 rfl rfl fun u8 w8 => ?_
        cases w8
        walk_at "y"
        by_cases c : g < g'
        · rw [show decide ((g' : Int) > g) = true from decide_eq_true (by omega)]
          walk_at "y"
          refine q _ _ ex2 ?_
          unfold pickH
          dsimp only
          rw [if_pos c]
          exact w1
        · rw [show decide ((g' : Int) > g) = false from decide_eq_false (by omega)]
          walk_at "y"
          refine q _ _ ex2 ?_
          unfold pickH
          dsimp only
          rw [if_neg c]
          exact w0
/-! ### the disk as a dict of lists -/
abbrev sK (s : Str) : L2.Key := .inr s
structure LDiskD (K : PySem.W.Frag) (dd ls lf lp : Addr) (sl sf : List PyData) (pu : List (Nat × PyData)) (H : Hp) : Prop where
  d : H dd = some (.dK [(sK "slots", .ref ls), (sK "safe", .ref lf), (sK "puts", .ref lp)])
  s : ∃ xs, H ls = some (.lst xs) ∧ WtL K H xs sl
  f : ∃ xs, H lf = some (.lst xs) ∧ WtL K H xs sf
  p : ∃ xs, H lp = some (.lst xs) ∧ WtL K H xs (pu.map putD)
  n1 : ls ≠ lf
  n2 : ls ≠ lp
  n3 : lf ≠ lp
abbrev LDisk (K : PySem.W.Frag) (dd ls lf lp : Addr) (S F : List Slot) (U : List (Nat × Entry)) (H : Hp) : Prop := LDiskD K dd ls lf lp (S.map slD) (F.map slD) (U.map entP) H
theorem LDiskD.go {L : List Addr} {dd ls lf lp : Addr} {sl sf : List PyData} {pu : List (Nat × PyData)} {H H' : Hp} (h : LDiskD K dd ls lf lp sl sf pu H) (o : DOk sl sf pu) (g : Go L H H') (n : dd ∉ L ∧ ls ∉ L ∧ lf ∉ L ∧ lp ∉ L) : LDiskD K dd ls lf lp sl sf pu H' := by
  obtain ⟨xs, e1, w1⟩ := h.s
  obtain ⟨ys, e2, w2⟩ := h.f
  obtain ⟨zs, e3, w3⟩ := h.p
  exact ⟨g.keep _ _ n.1 h.d, ⟨xs, g.keep _ _ n.2.1 e1, w1.go g (tup_to o.hsl)⟩, ⟨ys, g.keep _ _ n.2.2.1 e2, w2.go g (tup_to o.hsf)⟩, ⟨zs, g.keep _ _ n.2.2.2 e3, w3.go g o.tp⟩, h.n1, h.n2, h.n3⟩
theorem DskOk.t1 {S F : List Slot} {U : List (Nat × Entry)} {M : Nat} (h : DskOk S F U M) : tupOnlyL (S.map slD) = true := (lay_slots h.s).to
theorem DskOk.t2 {S F : List Slot} {U : List (Nat × Entry)} {M : Nat} (h : DskOk S F U M) : tupOnlyL (F.map slD) = true := (lay_slots h.f).to
theorem DskOk.t3 {S F : List Slot} {U : List (Nat × Entry)} {M : Nat} (h : DskOk S F U M) : tupOnlyL ((U.map entP).map putD) = true := h.d.tp
theorem LDisk.go {L : List Addr} {dd ls lf lp : Addr} {S F : List Slot} {U : List (Nat × Entry)} {M : Nat} {H H' : Hp} (h : LDisk K dd ls lf lp S F U H) (o : DskOk S F U M) (g : Go L H H') (n : dd ∉ L ∧ ls ∉ L ∧ lf ∉ L ∧ lp ∉ L) : LDisk K dd ls lf lp S F U H' := by
  obtain ⟨xs, e1, w1⟩ := h.s
  obtain ⟨ys, e2, w2⟩ := h.f
  obtain ⟨zs, e3, w3⟩ := h.p
  exact ⟨g.keep _ _ n.1 h.d, ⟨xs, g.keep _ _ n.2.1 e1, w1.go g o.t1⟩, ⟨ys, g.keep _ _ n.2.2.1 e2, w2.go g o.t2⟩, ⟨zs, g.keep _ _ n.2.2.2 e3, w3.go g o.t3⟩, h.n1, h.n2, h.n3⟩
theorem x_kdgetK {D : Addr} {kvs : List (L2.Key × V)} {s : Str} {v : V} {H : Hp} {Q : VK} (h : H D = some (.dK kvs)) (e : valV kvs (.inr s) = some v) (q : Q v H) : kDget (.ref D) (.str s) H Q := ⟨D, v, rfl, e ▸ DGet.k (k := .inr s) h, q⟩
theorem x_kdputK {D : Addr} {kvs gs : List (L2.Key × V)} {s : Str} {v : V} {H : Hp} {q : Hp → Prop} (h : H D = some (.dK kvs)) (l : kvs.length < 1000) (e : putK kvs (.inr s) v = gs) (k : ∀ H', Go [D] H H' → H' D = some (.dK gs) → q H') : kDput (.ref D) (.str s) v H q :=
  ⟨D, _, rfl, DPut.k (k := .inr s) h (Nat.lt_of_lt_of_le l (by decide)), k _ (Go.set h (by intro _ z; cases z)) (by rw [upd_same, e])⟩
theorem x_setD {D : Addr} {kvs gs : List (L2.Key × V)} {s : Str} {v : V} {H : Hp} {q : Hp → Prop} (h : H D = some (.dK kvs)) (l : kvs.length < 1000) (e : putK kvs (.inr s) v = gs) (k : ∀ H', Go [D] H H' → H' D = some (.dK gs) → q H') : rSetD (.ref D) (.str s) v H q :=
  ⟨D, _, rfl, DPut.k (k := .inr s) h (Nat.lt_of_lt_of_le l (by decide)), k _ (Go.set h (by intro _ z; cases z)) (by rw [upd_same, e])⟩
theorem cal_weak {k : Nat} {x : Str} {sp sp' : Sp} (c : Cal P w K mg base k x sp) (h : ∀ vs H Q E, sp' vs H Q E → sp vs H Q E) : Cal P w K mg base k x sp' := by
  obtain ⟨f, fd, ps, F, r⟩ := c.ex
  exact ⟨f, fd, ps, ⟨fun vs H Q E z => F.len vs H Q E (h _ _ _ _ z), fun A outer s H args us vs Q E a b c d z => F.run A outer s H args us vs Q E a b c d (h _ _ _ _ z)⟩, r⟩
/-! ### put -/
def spPutD (K : PySem.W.Frag) : Sp := fun vs H Q _ => ∃ dd ls lf lp n y e sl sf pu, vs = [.ref dd, .int ((n : Nat) : Int), y] ∧ LDiskD K dd ls lf lp sl sf pu H ∧ DOk sl sf pu ∧ n < sl.length ∧ pu.length ≤ 200 ∧ Wt K H y e ∧ tupOnly e = true ∧
  ∀ H', Go [ls, lp] H H' → LDiskD K dd ls lf lp (sl.set n e) sf (pu ++ [(n, e)]) H' → Q .non H'
def spPutL (K : PySem.W.Frag) : Sp := fun vs H Q _ => ∃ dd ls lf lp n y e S F U M, vs = [.ref dd, .int ((n : Nat) : Int), y] ∧ LDisk K dd ls lf lp S F U H ∧ DskOk S F U M ∧ n < 2 * M ∧ Wt K H y (entD e) ∧ EntOk e ∧
  ∀ H', Go [ls, lp] H H' → LDisk K dd ls lf lp (S.set n (some e)) F (U ++ [(n, e)]) H' → Q .non H'
abbrev s_put : Stmt := top 39
abbrev nms_put : List Str := ["disk", "slot", "entry", "slots"]
theorem sc_put : FnScope nms_put ["disk", "slot", "entry"] (defScope s_put) := ⟨rfl, rfl, rfl, by decide +kernel, rfl, by decide +kernel, by decide +kernel⟩
theorem ok_putD {f : Addr} {fd : FuncData} (F : Fun K "_law_put" "_law_put" s_put f fd) (hm : mg "_law_put" = some (.ref f)) (b : Binds K fd ["disk", "slot", "entry"] []) (T : Bt mg) : Cal P w K mg base 1 "_law_put" (spPutD K) := by
  refine cal_of F hm b sc_put (fun vs H Q E h => ?_) (fun cdv A outer s H vs Q E hr h => ?_)
  · obtain ⟨dd, ls, lf, lp, n, y, e, sl, sf, pu, rfl, _⟩ := h
    rfl
  · obtain ⟨dd, ls, lf, lp, n, y, e, sl, sf, pu, rfl, hd, od, hn, lu, wy, tE, q⟩ := h
    have hu64 := pass_hu64 hr
    have hu1 : (A.deeper (PyProof.Rows.envOfC "_law_put" (defScope s_put) s.heap.objs.size f cdv)).units + 1 < cLine := by have := hr.un; omega
    refine ⟨_, (pss_cons (ps_set (i := 3) sc_put.nd rfl (by first | exact Or.inl rfl | exact Or.inr rfl) (pe_dget hu1 (pv 0) pe_str (fun _ _ => rfl)))
    (pss_cons (ps_asg (pv 2) (pg_sub (pv 3) (pv 1) set_list))
    (pss_one (ps_expr (pe_bm PySem.F.plainAttrs_list PySem.F.slot_list_append PySem.F.type_list_append mt_append (pe_dget hu1 (pv 0) pe_str (fun _ _ => rfl)) (pa_cons (pe_tup (pa_cons (pv 1) (pa_cons (pv 2) pa_nil))) pa_nil)))))), ?_⟩
    try dsimp only [cxOf]
    obtain ⟨xs, e1, w1⟩ := hd.s
    obtain ⟨ys, e2, w2⟩ := hd.f
    obtain ⟨zs, e3, w3⟩ := hd.p
    have lx : xs.length = sl.length := w1.len
    have lz : zs.length ≤ 200 := by rw [w3.len, List.length_map]; exact lu
    walk_at "y"
    refine x_kdgetK hd.d rfl ?_
    walk_at "y"
    refine x_setl e1 rfl (by omega) fun H1 g1 h1 => ?_
    have nds : dd ≠ ls := fun z => by have := hd.d; rw [z, e1] at this; cases this
    have ndp : dd ≠ lp := fun z => by have := hd.d; rw [z, e3] at this; cases this
    have hd1 := g1.keep dd _ (by simp [nds]) hd.d
    walk_at "y"
    refine x_kdgetK hd1 rfl ?_
    have hp1 := g1.keep lp _ (by simp [Ne.symm hd.n2]) e3
    refine ⟨x_tyl hp1, ?_⟩
    have wy1 := wy.go g1 tE
    walk_at "y"
    refine x_mkt (.cons (.int _) (.cons wy1 .nil)) fun u2 H2 ex2 wu2 => ?_
    walk_at "y"
    refine x_append (ex2 _ _ hp1) (by omega) fun H3 g3 h3 => ?_
    walk_at "y"
    have G : Go [ls, lp] H1 H3 := ex2.go.trans (g3.mono (by simp))
    have t3 := od.tp
    refine q H3 ((g1.mono (by simp)).trans G) ⟨g3.keep dd _ (by simp [ndp]) (ex2 _ _ hd1), ⟨_, g3.keep ls _ (by simp [hd.n2]) (ex2 _ _ h1), ?_⟩, ⟨ys, g3.keep lf _ (by simp [hd.n3]) (ex2 _ _ (g1.keep lf _ (by simp [Ne.symm hd.n1]) e2)), (w2.go g1 (tup_to od.hsf)).go G (tup_to od.hsf)⟩, ⟨_, h3, ?_⟩, hd.n1, hd.n2, hd.n3⟩
    · have tt : tupOnlyL (sl.set n e) = true := tupOnlyL_iff.mpr fun x hx => by
        rcases List.mem_or_eq_of_mem_set hx with z | z
        · exact od.hsl x z
        · rw [z]; exact tE
      exact ((w1.set wy n).go g1 tt).go G tt
    · rw [List.map_append]
      have tt : tupOnlyL (pu.map putD ++ [putD (n, e)]) = true := tupOnlyL_iff.mpr fun x hx => by
        rcases List.mem_append.mp hx with z | z
        · exact tupOnlyL_iff.mp t3 x z
        · rw [List.mem_singleton.mp z]; exact putD_to (p := (n, e)) tE
      exact (((w3.go g1 t3).ex ex2).append (.cons wu2 .nil)).go g3 tt
theorem put_of (c : Cal P w K mg base 1 "_law_put" (spPutD K)) : Cal P w K mg base 1 "_law_put" (spPutL K) := cal_weak c fun vs H Q E ⟨dd, ls, lf, lp, n, y, e, S, F, U, M, ev, hd, od, hn, wy, he, q⟩ =>
  ⟨dd, ls, lf, lp, n, y, entD e, S.map slD, F.map slD, U.map entP, ev, hd, od.d, by rw [List.length_map, od.ls]; exact hn, by rw [List.length_map]; exact od.lu, wy, (lay_ent he).to, fun H' g h => q H' g (by
    have e1 : (S.map slD).set n (entD e) = (S.set n (some e)).map slD := by rw [List.map_set]; rfl
    have e2 : U.map entP ++ [(n, entD e)] = (U ++ [(n, e)]).map entP := by rw [List.map_append]; rfl
    rw [e1, e2] at h
    exact h)⟩
/-! ### safe -/
def spSafeD (K : PySem.W.Frag) : Sp := fun vs H Q _ => ∃ dd ls lf lp sl sf pu, vs = [.ref dd] ∧ LDiskD K dd ls lf lp sl sf pu H ∧ DOk sl sf pu ∧
  ∀ lf' lp' H', Go [dd] H H' → H lf' = none → H lp' = none → LDiskD K dd ls lf' lp' sl sl [] H' → Q .non H'
def spSafe (K : PySem.W.Frag) : Sp := fun vs H Q _ => ∃ dd ls lf lp S F U M, vs = [.ref dd] ∧ LDisk K dd ls lf lp S F U H ∧ DskOk S F U M ∧
  ∀ lf' lp' H', Go [dd] H H' → H lf' = none → H lp' = none → LDisk K dd ls lf' lp' S S [] H' → Q .non H'
abbrev s_safe : Stmt := top 40
abbrev nms_safe : List Str := ["disk"]
theorem sc_safe : FnScope nms_safe ["disk"] (defScope s_safe) := ⟨rfl, rfl, rfl, by decide +kernel, rfl, by decide +kernel, by decide +kernel⟩
theorem ok_safeD {f : Addr} {fd : FuncData} (F : Fun K "_law_safe" "_law_safe" s_safe f fd) (hm : mg "_law_safe" = some (.ref f)) (b : Binds K fd ["disk"] []) (T : Bt mg) : Cal P w K mg base 1 "_law_safe" (spSafeD K) := by
  refine cal_of F hm b sc_safe (fun vs H Q E h => ?_) (fun cdv A outer s H vs Q E hr h => ?_)
  · obtain ⟨dd, ls, lf, lp, sl, sf, pu, rfl, _⟩ := h
    rfl
  · obtain ⟨dd, ls, lf, lp, sl, sf, pu, rfl, hd, od, q⟩ := h
    have hu64 := pass_hu64 hr
    have hu1 : (A.deeper (PyProof.Rows.envOfC "_law_safe" (defScope s_safe) s.heap.objs.size f cdv)).units + 1 < cLine := by have := hr.un; omega
    refine ⟨_, (pss_one (ps_asg (pe_tup (pa_cons (pe_callTy cList (by rfl) T.list (by decide +kernel) (pa_cons (pe_dget hu1 (pv 0) pe_str (fun _ _ => rfl)) pa_nil)) (pa_cons (pe_lst pa_nil) pa_nil))) (pg_tup (n := 2) rfl (pgs_cons (pg_sub (pv 0) pe_str (set_dict hu1)) (pgs_cons (pg_sub (pv 0) pe_str (set_dict hu1)) pgs_nil))))), ?_⟩
    try dsimp only [cxOf]
    obtain ⟨xs, e1, w1⟩ := hd.s
    walk_at "y"
    refine x_kdgetK hd.d rfl ?_
    walk_at "y"
    refine x_lstl e1 fun p1 H1 x1 n1 h1 => ?_
    walk_at "y"
    refine x_mkl (vs := []) fun p2 H2 x2 n2 h2 => ?_
    walk_at "y"
    refine x_mkr fun p3 H3 x3 n3 h3 => ?_
    walk_at "y"
    refine x_gtup h3 rfl ?_
    have E3 := x1.trans (x2.trans x3)
    walk_at "y"
    refine x_setD (E3 _ _ hd.d) (by simp) rfl fun H4 g4 h4 => ?_
    replace h4 : H4 dd = some (.dK [(sK "slots", .ref ls), (sK "safe", .ref p1), (sK "puts", .ref lp)]) := h4
    walk_at "y"
    refine x_setD h4 (by simp) rfl fun H5 g5 h5 => ?_
    replace h5 : H5 dd = some (.dK [(sK "slots", .ref ls), (sK "safe", .ref p1), (sK "puts", .ref p2)]) := h5
    walk_at "y"
    have G : Go [dd] H3 H5 := g4.trans g5
    have nd : ∀ l zs, H3 l = some (.lst zs) → l ∉ [dd] := fun l zs e z => by
      have := E3 _ _ hd.d
      rw [← List.mem_singleton.mp z, e] at this
      cases this
    have k1 := (x2.trans x3) _ _ h1
    have k2 := x3 _ _ h2
    have ks := E3 _ _ e1
    refine q p1 p2 H5 (E3.go.trans G) n1 (x1.free n2) ⟨h5, ⟨xs, G.keep _ _ (nd _ _ ks) ks, (w1.ex E3).go G (tup_to od.hsl)⟩, ⟨xs, G.keep _ _ (nd _ _ k1) k1, (w1.ex E3).go G (tup_to od.hsl)⟩, ⟨[], G.keep _ _ (nd _ _ k2) k2, .nil⟩, fun z => ?_, fun z => ?_, fun z => ?_⟩
    · rw [z, n1] at e1; cases e1
    · rw [z] at e1; rw [x1.free n2] at e1; cases e1
    · rw [z, n2] at h1; cases h1
theorem safe_of (c : Cal P w K mg base 1 "_law_safe" (spSafeD K)) : Cal P w K mg base 1 "_law_safe" (spSafe K) := cal_weak c fun vs H Q E ⟨dd, ls, lf, lp, S, F, U, M, ev, hd, od, q⟩ =>
  ⟨dd, ls, lf, lp, S.map slD, F.map slD, U.map entP, ev, hd, od.d, fun lf' lp' H' g h1 h2 h => q lf' lp' H' g h1 h2 h⟩
end
end Y
/-! part M2 -/
/-! Plain: a journal on a disk that falls anywhere. -/
namespace Y
open PySem L2
/-! ### every half reads as something -/
theorem rh_run (S : List Slot) (M b g : Nat) (hb : b + M ≤ S.length) : ∀ (k i : Nat) (es : Nat → Entry) (pg : Nat → Page), k + (i + 1) = M → (∀ j, j ≤ i → S[b + j]? = some (some (es j))) → (∀ j, j ≤ i → (es j).g = g) → (∀ j, j ≤ i → (es j).n = j) → (∀ j, j < i → (es j).l ≤ (es (j + 1)).l) → pg 0 = (es 0).p → (∀ j, j < i → pg (j + 1) = over (pg j) (es (j + 1)).p) → ∃ last page, Rd S M b g last page
  | 0, i, es, pg, hk, h1, h2, h3, h4, h5, h6 => ⟨i, pg i, es, pg, ⟨h1, h2, h3, h4, h5, h6, by omega, fun h => by omega⟩, rfl⟩
  | k + 1, i, es, pg, hk, h1, h2, h3, h4, h5, h6 => by
    by_cases c : ∃ e, S[b + (i + 1)]? = some (some e) ∧ e.g = g ∧ e.n = i + 1 ∧ (es i).l ≤ e.l
    · obtain ⟨e, c1, c2, c3, c4⟩ := c
      let es' : Nat → Entry := fun j => if j = i + 1 then e else es j
      let pg' : Nat → Page := fun j => if j = i + 1 then over (pg i) e.p else pg j
      have le : ∀ j, j ≤ i → es' j = es j := fun j hj => if_neg (by omega)
      have lp : ∀ j, j ≤ i → pg' j = pg j := fun j hj => if_neg (by omega)
      have ei : es' (i + 1) = e := if_pos rfl
      have pi : pg' (i + 1) = over (pg i) e.p := if_pos rfl
      refine rh_run S M b g hb k (i + 1) es' pg' (by omega) (fun j hj => ?_) (fun j hj => ?_) (fun j hj => ?_) (fun j hj => ?_) ?_ (fun j hj => ?_)
      · by_cases z : j = i + 1
        · subst z; rw [ei]; exact c1
        · rw [le j (by omega)]; exact h1 j (by omega)
      · by_cases z : j = i + 1
        · subst z; rw [ei]; exact c2
        · rw [le j (by omega)]; exact h2 j (by omega)
      · by_cases z : j = i + 1
        · subst z; rw [ei]; exact c3
        · rw [le j (by omega)]; exact h3 j (by omega)
      · by_cases z : j = i
        · subst z; rw [ei, le j (Nat.le_refl _)]; exact c4
        · rw [le j (by omega), le (j + 1) (by omega)]; exact h4 j (by omega)
      · rw [lp 0 (by omega), le 0 (by omega)]; exact h5
      · by_cases z : j = i
        · subst z; rw [ei, pi, lp j (Nat.le_refl _)]
        · rw [lp j (by omega), lp (j + 1) (by omega), le (j + 1) (by omega)]; exact h6 j (by omega)
    · exact ⟨i, pg i, es, pg, ⟨h1, h2, h3, h4, h5, h6, by omega, fun _ e he z => c ⟨e, he, z⟩⟩, rfl⟩
theorem rh_exists (S : List Slot) (M b : Nat) (hb : b + M ≤ S.length) (hM : 0 < M) : ∃ r, RH S M b r := by
  by_cases c : ∃ e, S[b]? = some (some e) ∧ e.n = 0
  · obtain ⟨e, h1, h2⟩ := c
    obtain ⟨last, page, r⟩ := rh_run S M b e.g hb (M - 1) 0 (fun _ => e) (fun _ => e.p) (by omega) (fun j hj => by rw [show j = 0 by omega]; exact h1) (fun _ _ => rfl) (fun j hj => by rw [h2]; omega) (fun j hj => by omega) rfl (fun j hj => by omega)
    exact ⟨_, .some r⟩
  · exact ⟨none, .none fun e he hn => c ⟨e, he, hn⟩⟩
theorem Rd.head {S : List Slot} {M b g l : Nat} {p : Page} (r : Rd S M b g l p) : ∃ e, S[b]? = some (some e) ∧ e.n = 0 ∧ e.g = g := by
  obtain ⟨es, pg, r, _⟩ := r
  exact ⟨es 0, r.at_ 0 (Nat.zero_le _), r.hn 0 (Nat.zero_le _), r.hg 0 (Nat.zero_le _)⟩
theorem rd_same {S : List Slot} {M b g g' l l' : Nat} {es es' : Nat → Entry} {pg pg' : Nat → Page} (r : RdW S M b g l es pg) (r' : RdW S M b g' l' es' pg') : ∀ i, i ≤ l → i ≤ l' → es i = es' i ∧ pg i = pg' i
  | 0, h, h' => by
    have e := r.at_ 0 h
    rw [r'.at_ 0 h'] at e
    simp only [Option.some.injEq] at e
    exact ⟨e.symm, by rw [r.p0, r'.p0, e]⟩
  | i + 1, h, h' => by
    have e := r.at_ (i + 1) h
    rw [r'.at_ (i + 1) h'] at e
    simp only [Option.some.injEq] at e
    exact ⟨e.symm, by rw [r.pS i (by omega), r'.pS i (by omega), e, (rd_same r r' i (by omega) (by omega)).2]⟩
theorem rd_le {S : List Slot} {M b g g' l l' : Nat} {es es' : Nat → Entry} {pg pg' : Nat → Page} (r : RdW S M b g l es pg) (r' : RdW S M b g' l' es' pg') : l' ≤ l := by
  apply Nat.le_of_not_lt
  intro h
  have hg : g' = g := by rw [← r.hg 0 (Nat.zero_le _), ← r'.hg 0 (Nat.zero_le _), (rd_same r r' 0 (Nat.zero_le _) (Nat.zero_le _)).1]
  have e := r'.at_ (l + 1) h
  refine r.stop (by have := r'.lt; omega) _ e ⟨?_, r'.hn _ h, ?_⟩
  · rw [r'.hg _ h, hg]
  · rw [(rd_same r r' l (Nat.le_refl _) (by omega)).1]
    exact r'.hl l h
theorem rd_unique {S : List Slot} {M b g g' l l' : Nat} {p p' : Page} (r : Rd S M b g l p) (r' : Rd S M b g' l' p') : g = g' ∧ l = l' ∧ p = p' := by
  obtain ⟨es, pg, r, rfl⟩ := r
  obtain ⟨es', pg', r', rfl⟩ := r'
  have hl : l = l' := Nat.le_antisymm (rd_le r' r) (rd_le r r')
  subst hl
  refine ⟨?_, rfl, (rd_same r r' l (Nat.le_refl _) (Nat.le_refl _)).2⟩
  rw [← r.hg 0 (Nat.zero_le _), ← r'.hg 0 (Nat.zero_le _), (rd_same r r' 0 (Nat.zero_le _) (Nat.zero_le _)).1]
theorem rh_some {S : List Slot} {M b g l : Nat} {p : Page} {r : Option (Nat × Nat × Page)} (h : RH S M b r) (rd : Rd S M b g l p) : r = some (g, l, p) := by
  cases h with
  | none h =>
    obtain ⟨e, h1, h2, _⟩ := rd.head
    exact absurd h2 (h e h1)
  | some h =>
    obtain ⟨rfl, rfl, rfl⟩ := rd_unique h rd
    rfl
/-! ### writing a slot -/
theorem Rd.set_out {S : List Slot} {M b g l n : Nat} {p : Page} {s : Slot} (r : Rd S M b g l p) (h : ∀ i, i ≤ l → n ≠ b + i) (h' : l + 1 < M → n ≠ b + (l + 1)) : Rd (S.set n s) M b g l p := by
  obtain ⟨es, pg, r, e⟩ := r
  refine ⟨es, pg, ⟨fun i hi => ?_, r.hg, r.hn, r.hl, r.p0, r.pS, r.lt, fun c e he => ?_⟩, e⟩
  · rw [List.getElem?_set_ne (h i hi)]
    exact r.at_ i hi
  · rw [List.getElem?_set_ne (h' c)] at he
    exact r.stop c e he
theorem Rd.grow {S : List Slot} {M b g l L : Nat} {p q : Page} (r : Rd S M b g l p) (hl : l + 1 < M) (hb : b + (l + 1) < S.length) (hL : ∀ e, S[b + l]? = some (some e) → e.l ≤ L)
    (st : l + 2 < M → ∀ e, S[b + (l + 2)]? = some (some e) → ¬ (e.g = g ∧ e.n = l + 2 ∧ L ≤ e.l)) : Rd (S.set (b + (l + 1)) (some ⟨g, L, l + 1, q⟩)) M b g (l + 1) (over p q) := by
  obtain ⟨es, pg, r, rfl⟩ := r
  let es' : Nat → Entry := fun j => if j = l + 1 then ⟨g, L, l + 1, q⟩ else es j
  let pg' : Nat → Page := fun j => if j = l + 1 then over (pg l) q else pg j
  have le : ∀ j, j ≤ l → es' j = es j := fun j hj => if_neg (by omega)
  have lp : ∀ j, j ≤ l → pg' j = pg j := fun j hj => if_neg (by omega)
  have ei : es' (l + 1) = ⟨g, L, l + 1, q⟩ := if_pos rfl
  have pi : pg' (l + 1) = over (pg l) q := if_pos rfl
  refine ⟨es', pg', ⟨fun j hj => ?_, fun j hj => ?_, fun j hj => ?_, fun j hj => ?_, ?_, fun j hj => ?_, hl, fun c e he => ?_⟩, pi⟩
  · by_cases z : j = l + 1
    · subst z; rw [ei, List.getElem?_set_self hb]
    · rw [le j (by omega), List.getElem?_set_ne (by omega)]; exact r.at_ j (by omega)
  · by_cases z : j = l + 1
    · subst z; rw [ei]
    · rw [le j (by omega)]; exact r.hg j (by omega)
  · by_cases z : j = l + 1
    · subst z; rw [ei]
    · rw [le j (by omega)]; exact r.hn j (by omega)
  · by_cases z : j = l
    · subst z; rw [ei, le j (Nat.le_refl _)]; exact hL _ (r.at_ j (Nat.le_refl _))
    · rw [le j (by omega), le (j + 1) (by omega)]; exact r.hl j (by omega)
  · rw [lp 0 (by omega), le 0 (by omega)]; exact r.p0
  · by_cases z : j = l
    · subst z; rw [ei, pi, lp j (Nat.le_refl _)]
    · rw [lp j (by omega), lp (j + 1) (by omega), le (j + 1) (by omega)]; exact r.pS j (by omega)
  · rw [List.getElem?_set_ne (by omega)] at he
    rw [ei]
    exact st (by omega) e he
theorem rd_head {S : List Slot} {M b g L : Nat} {q : Page} (hM : 1 < M) (hb : b < S.length) (st : ∀ e, S[b + 1]? = some (some e) → ¬ (e.g = g ∧ e.n = 1 ∧ L ≤ e.l)) : Rd (S.set b (some ⟨g, L, 0, q⟩)) M b g 0 q := by
  refine ⟨fun _ => ⟨g, L, 0, q⟩, fun _ => q, ⟨fun i hi => ?_, fun i hi => rfl, fun i hi => ?_, fun i hi => by omega, rfl, fun i hi => by omega, by omega, fun c e he => ?_⟩, rfl⟩
  · rw [show i = 0 by omega, Nat.add_zero, List.getElem?_set_self hb]
  · show 0 = i
    omega
  · rw [List.getElem?_set_ne (by omega)] at he
    exact st e he
/-! ### what is known of slots -/
def LowH (S : List Slot) (b g : Nat) : Prop := ∀ e, S[b]? = some (some e) → e.n = 0 → e.g < g
/-- all that is no part of the run is stale -/
def Stale (S : List Slot) (M : Nat) (b : Bk) : Prop := ∀ i, (i < b.half * M ∨ b.half * M + b.last < i) → ∀ e, S[i]? = some (some e) → e.l < b.life ∨ e.g < b.gen
structure Base (S : List Slot) (M : Nat) (b : Bk) : Prop where
  len : S.length = 2 * M
  lf : ∀ e, some e ∈ S → e.l ≤ b.life
  st : Stale S M b
structure Good (S : List Slot) (M : Nat) (b : Bk) : Prop where
  base : Base S M b
  rd : Rd S M (b.half * M) b.gen b.last b.page
  low : LowH S ((1 - b.half) * M) b.gen
inductive CutG (S : List Slot) (M : Nat) (b : Bk) (line : List Page) : Prop
  | one {l : Nat} {p : Page} (base : Base S M b) (rd : Rd S M (b.half * M) b.gen l p) (hl : l ≤ b.last) (he : l = b.last → p = b.page) (hp : p ∈ line) (low : LowH S ((1 - b.half) * M) b.gen)
  | two {g l : Nat} {p : Page} (base : Base S M b) (rd : Rd S M ((1 - b.half) * M) g l p) (hg : g < b.gen) (hp : p ∈ line) (low : LowH S (b.half * M) g)
def putS (U : List (Nat × Entry)) (s : List Slot) (k : Nat) : List Slot := match U[k]? with
  | some p => s.set p.1 (some p.2)
  | none => s
def cutS (U : List (Nat × Entry)) (F : List Slot) (ns : List Nat) : List Slot := ns.foldl (putS U) F
structure Inv2 (S F : List Slot) (U : List (Nat × Entry)) (M : Nat) (b : Bk) (line : List Page) : Prop where
  hM : 2 ≤ M
  hh : b.half ≤ 1
  good : Good S M b
  hp : b.page ∈ line
  cuts : ∀ ns, Asc ns U.length → CutG (cutS U F ns) M b line
/-! ### a row is added -/
theorem place_ne {h M i j : Nat} (hh : h ≤ 1) (hi : i < M) (hj : j < M) : h * M + i ≠ (1 - h) * M + j := by
  rcases (show h = 0 ∨ h = 1 by omega) with rfl | rfl
  · simp only [Nat.zero_mul, Nat.sub_zero, Nat.one_mul]; omega
  · simp only [Nat.one_mul, Nat.sub_self, Nat.zero_mul]; omega
theorem LowH.set {S : List Slot} {b g n : Nat} {s : Slot} (h : LowH S b g) (hn : n ≠ b) : LowH (S.set n s) b g := fun e he => by
  rw [List.getElem?_set_ne hn] at he
  exact h e he
theorem LowH.mono {S : List Slot} {b g g' : Nat} (h : LowH S b g) (l : g ≤ g') : LowH S b g' := fun e he hn => Nat.lt_of_lt_of_le (h e he hn) l
abbrev nextB (b : Bk) (p : Page) : Bk := ⟨b.life, b.gen, b.half, b.last + 1, over b.page p⟩
theorem Base.skip {S : List Slot} {M : Nat} {b : Bk} {p : Page} (h : Base S M b) : Base S M (nextB b p) := ⟨h.len, h.lf, fun i hi e he => h.st i (by
  rcases hi with hi | hi
  · exact .inl hi
  · exact .inr (Nat.lt_trans (Nat.lt_succ_self _) hi)) e he⟩
theorem Base.put {S : List Slot} {M : Nat} {b : Bk} {p : Page} (h : Base S M b) : Base (S.set (b.half * M + (b.last + 1)) (some ⟨b.gen, b.life, b.last + 1, p⟩)) M (nextB b p) := by
  refine ⟨by rw [List.length_set]; exact h.len, fun e he => ?_, fun i hi e he => ?_⟩
  · rcases List.mem_or_eq_of_mem_set he with z | z
    · exact h.lf e z
    · cases z; exact Nat.le_refl _
  · have hi' : i < b.half * M ∨ b.half * M + (b.last + 1) < i := hi
    rw [List.getElem?_set_ne (by omega)] at he
    exact h.st i (by omega) e he
theorem st_next {S : List Slot} {M : Nat} {b : Bk} (h : Stale S M b) {j : Nat} (hj : b.last < j) : ∀ e, S[b.half * M + j]? = some (some e) → ¬ (e.g = b.gen ∧ e.n = j ∧ b.life ≤ e.l) := fun e he z => by
  rcases h (b.half * M + j) (.inr (by omega)) e he with c | c <;> omega
theorem mem_at {S : List Slot} {i : Nat} {e : Entry} (h : S[i]? = some (some e)) : some e ∈ S := List.mem_of_getElem? h
theorem Good.put {S : List Slot} {M : Nat} {b : Bk} {p : Page} (h : Good S M b) (hM : 2 ≤ M) (hh : b.half ≤ 1) (c : b.last + 1 < M) : Good (S.set (b.half * M + (b.last + 1)) (some ⟨b.gen, b.life, b.last + 1, p⟩)) M (nextB b p) := by
  have hb := place_lt hh c
  refine ⟨h.base.put, h.rd.grow c (by rw [h.base.len]; exact hb) (fun e he => h.base.lf e (mem_at he)) (fun c2 => st_next h.base.st (by omega)), h.low.set ?_⟩
  have := place_ne hh c (show 0 < M by omega)
  rw [Nat.add_zero] at this
  exact this
theorem CutG.skip {S : List Slot} {M : Nat} {b : Bk} {line : List Page} {p : Page} (h : CutG S M b line) : CutG S M (nextB b p) (line ++ [over b.page p]) := by
  cases h with
  | one base rd hl he hp low => exact .one base.skip rd (Nat.le_succ_of_le hl) (fun z => absurd (show _ = b.last + 1 from z) (by omega)) (List.mem_append_left _ hp) low
  | two base rd hg hp low => exact .two base.skip rd hg (List.mem_append_left _ hp) low
theorem CutG.put {S : List Slot} {M : Nat} {b : Bk} {line : List Page} {p : Page} (h : CutG S M b line) (hM : 2 ≤ M) (hh : b.half ≤ 1) (c : b.last + 1 < M) : CutG (S.set (b.half * M + (b.last + 1)) (some ⟨b.gen, b.life, b.last + 1, p⟩)) M (nextB b p) (line ++ [over b.page p]) := by
  have hb := place_lt hh c
  have ne0 := place_ne hh c (show 0 < M by omega)
  rw [Nat.add_zero] at ne0
  cases h with
  | @one l q base rd hl he hp low =>
    by_cases z : l = b.last
    · subst z
      rw [he rfl] at rd
      exact .one base.put (rd.grow c (by rw [base.len]; exact hb) (fun e he => base.lf e (mem_at he)) (fun c2 => st_next base.st (by omega))) (Nat.le_refl _) (fun _ => rfl) (by simp) (low.set ne0)
    · refine .one base.put (rd.set_out (fun i hi => by omega) (fun _ => by omega)) (Nat.le_succ_of_le hl) (fun z => absurd (show _ = b.last + 1 from z) (by omega)) (List.mem_append_left _ hp) (low.set ne0)
  | @two g l q base rd hg hp low =>
    have hlt : l < M := by
      obtain ⟨_, _, r, _⟩ := rd
      exact r.lt
    exact .two base.put (rd.set_out (fun i hi => place_ne hh c (by omega)) (fun c2 => place_ne hh c c2)) hg (List.mem_append_left _ hp) (low.set (by omega))
theorem asc_snoc {ns : List Nat} {n : Nat} (h : Asc ns (n + 1)) : Asc ns n ∨ ∃ ms, ns = ms ++ [n] ∧ Asc ms n := by
  rcases List.eq_nil_or_concat ns with rfl | ⟨ms, k, rfl⟩
  · exact .inl ⟨.nil, by simp⟩
  · rw [List.concat_eq_append] at h ⊢
    obtain ⟨h1, h2⟩ := h
    obtain ⟨a1, a2, a3⟩ := List.pairwise_append.mp h1
    have hk := h2 k (by simp)
    by_cases c : k = n
    · subst c
      exact .inr ⟨ms, rfl, a1, fun x hx => a3 x hx k (by simp)⟩
    · refine .inl ⟨h1, fun x hx => ?_⟩
      rcases List.mem_append.mp hx with z | z
      · have := a3 x z k (by simp); omega
      · rw [List.mem_singleton.mp z]; omega
theorem cutS_more {U : List (Nat × Entry)} {x : Nat × Entry} : ∀ {ns : List Nat} {F : List Slot}, (∀ n ∈ ns, n < U.length) → cutS (U ++ [x]) F ns = cutS U F ns
  | [], _, _ => rfl
  | n :: ns, F, h => by
    have e : putS (U ++ [x]) F n = putS U F n := by
      unfold putS
      rw [List.getElem?_append_left (h n (List.mem_cons_self ..))]
    show cutS (U ++ [x]) (putS (U ++ [x]) F n) ns = cutS U (putS U F n) ns
    rw [e]
    exact cutS_more fun m hm => h m (List.mem_cons_of_mem _ hm)
theorem cutS_last {U : List (Nat × Entry)} {x : Nat × Entry} {ms : List Nat} {F : List Slot} (h : ∀ n ∈ ms, n < U.length) : cutS (U ++ [x]) F (ms ++ [U.length]) = (cutS U F ms).set x.1 (some x.2) := by
  show List.foldl _ _ (ms ++ [U.length]) = _
  rw [List.foldl_append]
  show putS (U ++ [x]) (cutS (U ++ [x]) F ms) U.length = _
  rw [cutS_more h]
  unfold putS
  rw [List.getElem?_append_right (Nat.le_refl _), Nat.sub_self]
  rfl
theorem Inv2.add {S F : List Slot} {U : List (Nat × Entry)} {M : Nat} {b : Bk} {line : List Page} {p : Page} (h : Inv2 S F U M b line) :
    Inv2 (S.set (addN M b) (some (addE M b p))) (if b.last + 1 < M then F else S) (if b.last + 1 < M then U ++ [(addN M b, addE M b p)] else [(addN M b, addE M b p)]) M (addB M b p) (line ++ [over b.page p]) := by
  have hM := h.hM
  have hh := h.hh
  by_cases c : b.last + 1 < M
  · unfold addN addE addB
    simp only [if_pos c]
    refine ⟨hM, hh, h.good.put hM hh c, by simp, fun ns hn => ?_⟩
    rw [List.length_append] at hn
    rcases asc_snoc hn with hn1 | ⟨ms, rfl, hms⟩
    · rw [cutS_more hn1.2]
      exact (h.cuts ns hn1).skip
    · rw [cutS_last hms.2]
      exact (h.cuts ms hms).put hM hh c
  · have hl : b.last + 1 = M := by
      obtain ⟨_, _, r, _⟩ := h.good.rd
      have := r.lt
      omega
    unfold addN addE addB
    simp only [if_neg c]
    have len := h.good.base.len
    have hb0 : (1 - b.half) * M < 2 * M := by
      have : (1 - b.half) * M ≤ 1 * M := Nat.mul_le_mul_right _ (by omega)
      omega
    have run : ∀ (i : Nat) (e : Entry), b.half * M ≤ i → i ≤ b.half * M + b.last → S[i]? = some (some e) → e.g = b.gen := fun i e h1 h2 he => by
      obtain ⟨es, pg, r, _⟩ := h.good.rd
      have := r.at_ (i - b.half * M) (by omega)
      rw [show b.half * M + (i - b.half * M) = i by omega, he] at this
      simp only [Option.some.injEq] at this
      rw [this]
      exact r.hg _ (by omega)
    have st' : ∀ (i : Nat) (e : Entry), S[i]? = some (some e) → e.l < b.life ∨ e.g < b.gen + 1 := fun i e he => by
      by_cases z : b.half * M ≤ i ∧ i ≤ b.half * M + b.last
      · have := run i e z.1 z.2 he
        omega
      · rcases h.good.base.st i (by omega) e he with z | z <;> omega
    have hrd := h.good.rd
    have e1 : 1 - (1 - b.half) = b.half := by omega
    have baseS : Base S M ⟨b.life, b.gen + 1, 1 - b.half, 0, over b.page p⟩ := ⟨len, h.good.base.lf, fun i _ e he => st' i e he⟩
    have baseT : Base (S.set ((1 - b.half) * M + 0) (some ⟨b.gen + 1, b.life, 0, over b.page p⟩)) M ⟨b.life, b.gen + 1, 1 - b.half, 0, over b.page p⟩ := by
      refine ⟨by rw [List.length_set]; exact len, fun e he => ?_, fun i hi e he => ?_⟩
      · rcases List.mem_or_eq_of_mem_set he with z | z
        · exact h.good.base.lf e z
        · cases z; exact Nat.le_refl _
      · have hi' : i < (1 - b.half) * M ∨ (1 - b.half) * M + 0 < i := hi
        rw [List.getElem?_set_ne (by omega)] at he
        exact st' i e he
    have rdT : Rd (S.set ((1 - b.half) * M + 0) (some ⟨b.gen + 1, b.life, 0, over b.page p⟩)) M ((1 - b.half) * M) (b.gen + 1) 0 (over b.page p) := by
      rw [Nat.add_zero]
      exact rd_head (by omega) (by rw [len]; exact hb0) fun e he z => by
        rcases st' _ e he with c | c <;> omega
    have lowT : LowH (S.set ((1 - b.half) * M + 0) (some ⟨b.gen + 1, b.life, 0, over b.page p⟩)) ((1 - (1 - b.half)) * M) (b.gen + 1) := by
      rw [e1]
      have hne := place_ne hh (show 0 < M by omega) (show 0 < M by omega)
      refine LowH.set (fun e he _ => ?_) (by omega)
      have := run (b.half * M) e (Nat.le_refl _) (by omega) he
      omega
    refine ⟨hM, by show 1 - b.half ≤ 1; omega, ⟨baseT, rdT, lowT⟩, by simp, fun ns hn => ?_⟩
    rcases asc_snoc (n := 0) hn with hn1 | ⟨ms, rfl, hms⟩
    · have : ns = [] := by
        cases ns with
        | nil => rfl
        | cons a r => exact absurd (hn1.2 a (List.mem_cons_self ..)) (Nat.not_lt_zero _)
      subst this
      refine .two (g := b.gen) (l := b.last) (p := b.page) baseS ?_ (Nat.lt_succ_self _) (List.mem_append_left _ h.hp) h.good.low
      show Rd S M ((1 - (1 - b.half)) * M) b.gen _ _
      rw [e1]
      exact hrd
    · have : ms = [] := by
        cases ms with
        | nil => rfl
        | cons a r => exact absurd (hms.2 a (List.mem_cons_self ..)) (Nat.not_lt_zero _)
      subst this
      exact .one baseT rdT (Nat.le_refl _) (fun _ => rfl) (by simp) lowT
theorem Good.cut {S : List Slot} {M : Nat} {b : Bk} {line : List Page} (h : Good S M b) (hp : b.page ∈ line) : CutG S M b line := .one h.base h.rd (Nat.le_refl _) (fun _ => rfl) hp h.low
theorem Inv2.flush {S F : List Slot} {U : List (Nat × Entry)} {M : Nat} {b : Bk} {line : List Page} (h : Inv2 S F U M b line) : Inv2 S S [] M b [b.page] :=
  ⟨h.hM, h.hh, h.good, by simp, fun ns hn => by
    cases ns with
    | nil => exact h.good.cut (by simp)
    | cons a r => exact absurd (hn.2 a (List.mem_cons_self ..)) (Nat.not_lt_zero _)⟩
/-- opened anew behind a fall -/
theorem fresh_good {S : List Slot} {M h g l : Nat} {p : Page} (len : S.length = 2 * M) (rd : Rd S M (h * M) g l p) (low : LowH S ((1 - h) * M) g) : Good S M ⟨1 + lifeOf S, g, h, l, p⟩ :=
  ⟨⟨len, fun e he => Nat.le_succ_of_le (by have := life_le he; show e.l ≤ lifeOf S; exact this) |> fun z => by show e.l ≤ 1 + lifeOf S; omega, fun i _ e he => .inl (by have := life_le (mem_at he); show e.l < 1 + lifeOf S; omega)⟩, rd, low⟩
theorem pick_of {S : List Slot} {M h g l : Nat} {p : Page} {r0 r1 : Option (Nat × Nat × Page)} (hh : h ≤ 1) (h0 : RH S M 0 r0) (h1 : RH S M M r1) (rd : Rd S M (h * M) g l p) (low : LowH S ((1 - h) * M) g) : pickH r0 r1 = some (g, h, l, p) := by
  rcases (show h = 0 ∨ h = 1 by omega) with rfl | rfl
  · rw [Nat.zero_mul] at rd
    rw [show (1 - 0) * M = M by omega] at low
    rw [rh_some h0 rd]
    cases h1 with
    | none _ => rfl
    | @some g' l' p' rd' =>
      obtain ⟨e, e1, e2, e3⟩ := rd'.head
      have := low e e1 e2
      unfold pickH
      dsimp only
      rw [if_neg (by omega)]
  · rw [Nat.one_mul] at rd
    rw [show (1 - 1) * M = 0 by omega] at low
    rw [rh_some h1 rd]
    cases h0 with
    | none _ => rfl
    | @some g' l' p' rd' =>
      obtain ⟨e, e1, e2, e3⟩ := rd'.head
      have := low e e1 e2
      unfold pickH
      dsimp only
      rw [if_pos (by omega)]
theorem Inv2.fall {S F : List Slot} {U : List (Nat × Entry)} {M : Nat} {b : Bk} {line : List Page} {ns : List Nat} {r0 r1 : Option (Nat × Nat × Page)} {first : Page} (h : Inv2 S F U M b line) (hn : Asc ns U.length) (h0 : RH (cutS U F ns) M 0 r0) (h1 : RH (cutS U F ns) M M r1) :
    ∃ g h l p, pickH r0 r1 = some (g, h, l, p) ∧ p ∈ line ∧ Inv2 (cutS U F ns) (cutS U F ns) [] M ⟨1 + lifeOf (cutS U F ns), g, h, l, p⟩ [p] := by
  have fin : ∀ (h' g l : Nat) (p : Page), h' ≤ 1 → (cutS U F ns).length = 2 * M → Rd (cutS U F ns) M (h' * M) g l p → LowH (cutS U F ns) ((1 - h') * M) g → Inv2 (cutS U F ns) (cutS U F ns) [] M ⟨1 + lifeOf (cutS U F ns), g, h', l, p⟩ [p] := fun h' g l p hh len rd low =>
    ⟨h.hM, hh, fresh_good len rd low, by simp, fun ns hn => by
      cases ns with
      | nil => exact (fresh_good len rd low).cut (by simp)
      | cons a r => exact absurd (hn.2 a (List.mem_cons_self ..)) (Nat.not_lt_zero _)⟩
  cases h.cuts ns hn with
  | one base rd hl he hp low => exact ⟨_, _, _, _, pick_of h.hh h0 h1 rd low, hp, fin _ _ _ _ h.hh base.len rd low⟩
  | @two g l p base rd hg hp low =>
    have e1 : 1 - (1 - b.half) = b.half := by have := h.hh; omega
    have low' : LowH (cutS U F ns) ((1 - (1 - b.half)) * M) g := by rw [e1]; exact low
    exact ⟨_, _, _, _, pick_of (by omega) h0 h1 rd low', hp, fin _ _ _ _ (by omega) base.len rd low'⟩
/-- the first opening, on empty slots -/
theorem inv_first {M : Nat} {first : Page} (hM : 2 ≤ M) : Inv2 ((List.replicate (2 * M) (none : Slot)).set 0 (some ⟨1, 1, 0, first⟩)) ((List.replicate (2 * M) (none : Slot)).set 0 (some ⟨1, 1, 0, first⟩)) [] M ⟨1, 1, 0, 0, first⟩ [first] := by
  have at_ : ∀ i e, 0 < i → ((List.replicate (2 * M) (none : Slot)).set 0 (some ⟨1, 1, 0, first⟩))[i]? = some (some e) → False := fun i e hi he => by
    rw [List.getElem?_set_ne (by omega)] at he
    have := (List.mem_replicate.mp (List.mem_of_getElem? he)).2
    cases this
  have g : Good ((List.replicate (2 * M) (none : Slot)).set 0 (some ⟨1, 1, 0, first⟩)) M ⟨1, 1, 0, 0, first⟩ := by
    refine ⟨⟨by rw [List.length_set, List.length_replicate], fun e he => ?_, fun i hi e he => ?_⟩, ?_, fun e he => (at_ _ e ?_ he).elim⟩
    · rcases List.mem_or_eq_of_mem_set he with z | z
      · have := (List.mem_replicate.mp z).2
        cases this
      · cases z; exact Nat.le_refl _
    · have hi : i < 0 * M ∨ 0 * M + 0 < i := hi
      rw [Nat.zero_mul] at hi
      exact (at_ i e (by omega) he).elim
    · show Rd _ M (0 * M) 1 0 first
      rw [Nat.zero_mul]
      refine rd_head (by omega) (by rw [List.length_replicate]; omega) fun e he => ?_
      have := (List.mem_replicate.mp (List.mem_of_getElem? he)).2
      cases this
    · show 0 < (1 - 0) * M
      omega
  exact ⟨hM, Nat.zero_le _, g, by simp, fun ns hn => by
    cases ns with
    | nil => exact g.cut (by simp)
    | cons a r => exact absurd (hn.2 a (List.mem_cons_self ..)) (Nat.not_lt_zero _)⟩
/-- the cut, at data -/
theorem cut_map (U : List (Nat × Entry)) : ∀ (ns : List Nat) (F : List Slot), cutP (U.map entP) (F.map slD) ns = (cutS U F ns).map slD
  | [], F => rfl
  | n :: ns, F => by
    show cutP _ (putAt _ (F.map slD) n) ns = (cutS U (putS U F n) ns).map slD
    have e : putAt (U.map entP) (F.map slD) n = (putS U F n).map slD := by
      cases h : U[n]? with
      | none =>
        rw [putAt_none (by rw [List.getElem?_map, h]; rfl)]
        unfold putS
        rw [h]
      | some p =>
        rw [putAt_some (p := entP p) (by rw [List.getElem?_map, h]; rfl)]
        unfold putS
        rw [h]
        dsimp only
        rw [List.map_set]
        rfl
    rw [e]
    exact cut_map U ns (putS U F n)
end Y
/-! part C5 -/
/-! The law's own disk and book, on. -/
namespace Y
open PySem L2
section
variable {K : PySem.W.Frag} {σ : L2.St} {H : Hp} {Q : VK}
def kDisp (p : Addr) (ps : List (V × V)) (H2 : Hp) (Q : VK) : Prop := H2 p = some (.dK []) ∧ ∃ kvs : List (L2.Key × V), ps = kvs.map (fun kv => (kV kv.1, kv.2)) ∧ kvs.length ≤ 15 ∧ Q (.ref p) (upd H2 p (.dK (mergeK [] kvs)))
theorem x_disp {trs : List (TE × TE)} (q : ∀ p H1, Ex H H1 → H p = none → H1 p = some (.dK []) → tPairs trs σ H1 fun ps H2 => kDisp p ps H2 Q) : tDisp trs σ H Q := fun p hp => q p _ (Ex.new hp) hp upd_same
theorem x_pcons {tk tv : TE} {r : List (TE × TE)} {Q : List (V × V) → Hp → Prop} (q : tk σ H fun x H1 => tv σ H1 fun y H2 => tPairs r σ H2 fun ps H3 => Q ((x, y) :: ps) H3) : tPairs ((tk, tv) :: r) σ H Q := q
theorem x_pnil {Q : List (V × V) → Hp → Prop} (q : Q [] H) : tPairs [] σ H Q := q
theorem x_kdisp {p : Addr} {ps : List (V × V)} (kvs gs : List (L2.Key × V)) (h : H p = some (.dK [])) (e : ps = kvs.map (fun kv => (kV kv.1, kv.2))) (l : kvs.length ≤ 15) (m : mergeK [] kvs = gs) (k : ∀ H', Go [p] H H' → H' p = some (.dK gs) → Q (.ref p) H') : kDisp p ps H Q :=
  ⟨h, kvs, e, l, k _ (Go.set h (by intro _ z; cases z)) (by rw [upd_same, m])⟩
end
local macro_rules | `(tactic| walk_at "y1") => `(tactic| (first
  | (with_reducible refine x_seq ?_) | (with_reducible refine x_asg ?_) | (with_reducible refine x_name ?_) | (with_reducible refine x_drop ?_) | (with_reducible refine x_ret ?_) | (with_reducible refine x_retN ?_)
  | (with_reducible refine x_next ?_) | (with_reducible refine x_brk ?_) | (with_reducible refine x_ifS ?_)
  | (with_reducible refine x_c ?_) | (with_reducible refine x_op ?_) | (with_reducible refine x_un ?_) | (with_reducible refine x_cb ?_) | (with_reducible refine x_cons ?_) | (with_reducible refine x_nil ?_)
  | (with_reducible refine x_call ?_) | (with_reducible refine x_tup ?_) | (with_reducible refine x_lst ?_) | (with_reducible refine x_sl ?_) | (with_reducible refine x_nopart ?_) | (with_reducible refine x_part ?_)
  | (with_reducible refine x_andV ?_) | (with_reducible refine x_orV ?_) | (with_reducible refine x_notV ?_) | (with_reducible refine x_if ?_) | (with_reducible refine x_test ?_) | (with_reducible refine x_tb ?_)
  | (with_reducible refine x_and ?_) | (with_reducible refine x_or ?_) | (with_reducible refine x_not ?_) | (with_reducible refine x_chain ?_) | (with_reducible refine x_exbl ?_) | (with_reducible refine x_exint ?_)
  | (with_reducible refine x_fld ?_) | (with_reducible refine x_sfld ?_) | (with_reducible refine x_par ?_) | (with_reducible refine x_par3 ?_) | (with_reducible refine x_dget ?_) | (with_reducible refine x_dput ?_)
  | (with_reducible refine x_bm ?_) | (with_reducible refine x_bm0 ?_) | (with_reducible refine x_pair ?_) | (with_reducible refine x_tri ?_) | (with_reducible refine x_int ?_) | (with_reducible refine x_intb ?_) | (with_reducible refine x_abs ?_) | (with_reducible refine x_isN ?_) | (with_reducible refine x_notN ?_) | (with_reducible refine x_meth ?_) | (with_reducible refine x_make ?_)
  | (with_reducible refine x_ite1 ?_) | (with_reducible refine x_ite0 ?_)
  | (with_reducible refine x_addi ?_) | (with_reducible refine x_neg ?_) | (with_reducible refine x_i0 ?_) | (with_reducible refine x_eqi ?_) | (with_reducible refine x_eqs ?_) | (with_reducible refine x_eqb ?_) | (with_reducible refine x_nei ?_) | (with_reducible refine x_lti ?_)
  | (with_reducible refine x_forL ?_) | (with_reducible refine x_forT ?_) | (with_reducible refine x_forR ?_) | (with_reducible refine x_forR2 ?_) | (with_reducible refine x_lcL ?_) | (with_reducible refine x_lcT ?_) | (with_reducible refine x_lcR ?_)
  | (with_reducible refine x_yes ?_) | (with_reducible refine x_pcons ?_) | (with_reducible refine x_pnil ?_) | (with_reducible refine x_gcons ?_) | (with_reducible refine x_gnil ?_) | (with_reducible refine x_gattr ?_) | (with_reducible refine x_raise ?_) | (with_reducible refine x_gsub ?_) | (with_reducible refine x_fldaug ?_) | (with_reducible refine x_radd ?_) | (with_reducible refine x_ipi ?_) | ((with_reducible refine x_aug (x := ?vv) ?hh ?qq); (case hh => exact rfl))
  | ((with_reducible refine x_iteA ?hc ?q); (case hc => exact rfl)) | ((with_reducible refine x_iteB ?hc ?q); (case hc => exact rfl))
  | ((with_reducible refine x_var (v := ?vv) ?hh ?qq); (case hh => exact rfl))
  | ((with_reducible refine r_isInt (d := ?dd) ?hh ?qq); (case hh => assumption)) | ((with_reducible refine r_isBool (d := ?dd) ?hh ?qq); (case hh => assumption)) | ((with_reducible refine r_isTup (d := ?dd) ?hh ?qq); (case hh => assumption))
  | ((with_reducible refine r_isStr (d := ?dd) ?hh ?qq); (case hh => assumption)) | ((with_reducible refine r_isLst (d := ?dd) ?hh ?qq); (case hh => assumption))))
local macro_rules | `(tactic| walk_at "y") => `(tactic| (repeat (walk_at "y1")))
section
variable {P : Program} {w : World} {K : PySem.W.Frag} {mg : Str → Option Value} {base : Heap}
/-! ### disk -/
def spDiskL (K : PySem.W.Frag) : Sp := fun vs H Q _ => ∃ (m : Nat), vs = [.int (m : Int)] ∧ m ≤ 64 ∧ ∀ dd ls lf lp H', Ex H H' → H dd = none → H ls = none → H lf = none → H lp = none → LDiskD K dd ls lf lp (List.replicate m (.tuple [])) (List.replicate m (.tuple [])) [] H' → Q (.ref dd) H'
abbrev s_disk : Stmt := top 38
abbrev nms_disk : List Str := ["many"]
theorem sc_disk : FnScope nms_disk ["many"] (defScope s_disk) := ⟨rfl, rfl, rfl, by decide +kernel, rfl, by decide +kernel, by decide +kernel⟩
theorem ok_disk {f : Addr} {fd : FuncData} (F : Fun K "_law_disk" "_law_disk" s_disk f fd) (hm : mg "_law_disk" = some (.ref f)) (b : Binds K fd ["many"] []) (T : Bt mg) : Cal P w K mg base 1 "_law_disk" (spDiskL K) := by
  refine cal_of F hm b sc_disk (fun vs H Q E h => ?_) (fun cdv A outer s H vs Q E hr h => ?_)
  · obtain ⟨m, rfl, _⟩ := h
    rfl
  · obtain ⟨m, rfl, hm, q⟩ := h
    have hu64 := pass_hu64 hr
    refine ⟨_, (pss_one (ps_ret (pe_disp (pps_cons pe_str (pe_op oMul (pe_lst (pa_cons (pe_tup pa_nil) pa_nil)) (pv 0)) (pps_cons pe_str (pe_op oMul (pe_lst (pa_cons (pe_tup pa_nil) pa_nil)) (pv 0)) (pps_cons pe_str (pe_lst pa_nil) pps_nil))) (by rfl) (by rfl) (fun z => by cases z) (by decide)))), ?_⟩
    try dsimp only [cxOf]
    refine x_ret (x_disp fun p H1 e1 n1 h1 => ?_)
    walk_at "y"
    refine x_mkt (K := K) .nil fun u2 H2 e2 w2 => ?_
    walk_at "y"
    refine x_mkl fun p3 H3 e3 n3 h3 => ?_
    walk_at "y"
    refine x_mull h3 (by omega) (by simp; omega) (by omega) fun p4 H4 e4 n4 h4 => ?_
    walk_at "y"
    refine x_mkt (K := K) .nil fun u5 H5 e5 w5 => ?_
    walk_at "y"
    refine x_mkl fun p6 H6 e6 n6 h6 => ?_
    walk_at "y"
    refine x_mull h6 (by omega) (by simp; omega) (by omega) fun p7 H7 e7 n7 h7 => ?_
    walk_at "y"
    refine x_mkl (vs := []) fun p8 H8 e8 n8 h8 => ?_
    rw [Int.toNat_natCast, flat_rep] at h4 h7
    walk_at "y"
    have E48 := e5.trans (e6.trans (e7.trans e8))
    have E14 := e2.trans (e3.trans e4)
    refine x_kdisp [(sK "slots", .ref p4), (sK "safe", .ref p7), (sK "puts", .ref p8)] _ ((E14.trans E48) _ _ h1) rfl (by simp) rfl fun H9 g9 h9 => ?_
    replace h9 : H9 p = some (.dK [(sK "slots", .ref p4), (sK "safe", .ref p7), (sK "puts", .ref p8)]) := h9
    have k4 : p4 ≠ p := fun z => by have := (e2.trans e3) _ _ h1; rw [← z, n4] at this; cases this
    have k7 : p7 ≠ p := fun z => by have := (E14.trans (e5.trans e6)) _ _ h1; rw [← z, n7] at this; cases this
    have k8 : p8 ≠ p := fun z => by have := (E14.trans (e5.trans (e6.trans e7))) _ _ h1; rw [← z, n8] at this; cases this
    have N4 : H p4 = none := e1.free ((e2.trans e3).free n4)
    have N7 : H p7 = none := e1.free ((E14.trans (e5.trans e6)).free n7)
    have N8 : H p8 = none := e1.free ((E14.trans (e5.trans (e6.trans e7))).free n8)
    have nil : ∀ (u : V), Wt K H9 u (.tuple []) → ∀ n, WtL K H9 (List.replicate n u) (List.replicate n (.tuple [])) := fun u wu n => WtL.replicate wu n
    have w29 : Wt K H9 u2 (.tuple []) := (w2.ex (e3.trans (e4.trans E48))).go g9 rfl
    have w59 : Wt K H9 u5 (.tuple []) := (w5.ex (e6.trans (e7.trans e8))).go g9 rfl
    refine q p p4 p7 p8 H9 (ex_of_go (e1.trans (E14.trans E48)) n1 g9) n1 N4 N7 N8 ⟨h9, ⟨_, g9.keep _ _ (by simp [k4]) (E48 _ _ h4), nil _ w29 m⟩, ⟨_, g9.keep _ _ (by simp [k7]) (e8 _ _ h7), nil _ w59 m⟩, ⟨[], g9.keep _ _ (by simp [k8]) h8, .nil⟩, fun z => ?_, fun z => ?_, fun z => ?_⟩
    · have := (e5.trans e6) _ _ h4; rw [z, n7] at this; cases this
    · have := (e5.trans (e6.trans e7)) _ _ h4; rw [z, n8] at this; cases this
    · rw [z, n8] at h7; cases h7
/-! ### cut -/
def spCutD (K : PySem.W.Frag) : Sp := fun vs H Q _ => ∃ dd ls lf lp lk ns sl sf pu, vs = [.ref dd, .ref lk] ∧ (H lk = some (.lst (nums ns)) ∨ H lk = some (.tup (nums ns))) ∧ LDiskD K dd ls lf lp sl sf pu H ∧ DOk sl sf pu ∧ (∀ n ∈ ns, n < pu.length) ∧
  ∀ ls' lf' lp' H', Go [dd] H H' → H ls' = none → H lf' = none → H lp' = none → LDiskD K dd ls' lf' lp' (cutP pu sf ns) (cutP pu sf ns) [] H' → Q .non H'
abbrev s_cut : Stmt := top 41
abbrev nms_cut : List Str := ["disk", "kept", "slots", "k"]
theorem sc_cut : FnScope nms_cut ["disk", "kept"] (defScope s_cut) := ⟨rfl, rfl, rfl, by decide +kernel, rfl, by decide +kernel, by decide +kernel⟩
theorem ok_cutD {f : Addr} {fd : FuncData} (F : Fun K "_law_cut" "_law_cut" s_cut f fd) (hm : mg "_law_cut" = some (.ref f)) (b : Binds K fd ["disk", "kept"] []) (T : Bt mg) : Cal P w K mg base 1 "_law_cut" (spCutD K) := by
  refine cal_of F hm b sc_cut (fun vs H Q E h => ?_) (fun cdv A outer s H vs Q E hr h => ?_)
  · obtain ⟨dd, ls, lf, lp, lk, ns, sl, sf, pu, rfl, _⟩ := h
    rfl
  · obtain ⟨dd, ls, lf, lp, lk, ns, sl, sf, pu, rfl, hk, hd, od, ha, q⟩ := h
    have hu64 := pass_hu64 hr
    have hu1 : (A.deeper (PyProof.Rows.envOfC "_law_cut" (defScope s_cut) s.heap.objs.size f cdv)).units + 1 < cLine := by have := hr.un; omega
    obtain ⟨xs, e1, w1⟩ := hd.s
    obtain ⟨ys, e2, w2⟩ := hd.f
    obtain ⟨zs, e3, w3⟩ := hd.p
    rcases hk with hk | hk
    · skip
      refine ⟨_, (pss_cons (ps_set (i := 2) sc_cut.nd rfl (by first | exact Or.inl rfl | exact Or.inr rfl) (pe_callTy cList (by rfl) T.list (by decide +kernel) (pa_cons (pe_dget hu1 (pv 0) pe_str (fun _ _ => rfl)) pa_nil)))
    (pss_cons (ps_for (passes_of rfl) rfl (pi_list (pv 1)) (pg_name (i := 3) sc_cut.nd rfl (by first | exact Or.inl rfl | exact Or.inr rfl))
    (pss_one (ps_asg (pe_ix (oIxK K) (pe_ix (oIxK K) (pe_dget hu1 (pv 0) pe_str (fun _ _ => rfl)) (pv 3) (fun _ _ => rfl)) pe_int (fun _ _ => rfl)) (pg_sub (pv 2) (pe_ix (oIxK K) (pe_ix (oIxK K) (pe_dget hu1 (pv 0) pe_str (fun _ _ => rfl)) (pv 3) (fun _ _ => rfl)) pe_int (fun _ _ => rfl)) set_list))))
    (pss_one (ps_asg (pe_tup (pa_cons (pv 2) (pa_cons (pe_callTy cList (by rfl) T.list (by decide +kernel) (pa_cons (pv 2) pa_nil)) (pa_cons (pe_lst pa_nil) pa_nil)))) (pg_tup (n := 3) rfl (pgs_cons (pg_sub (pv 0) pe_str (set_dict hu1)) (pgs_cons (pg_sub (pv 0) pe_str (set_dict hu1)) (pgs_cons (pg_sub (pv 0) pe_str (set_dict hu1)) pgs_nil)))))))), ?_⟩
      try dsimp only [cxOf]
      walk_at "y"
      refine x_kdgetK hd.d rfl ?_
      walk_at "y"
      refine x_lstl e2 fun l H1 x1 n1 h1 => ?_
      walk_at "y"
      have cto : ∀ i, tupOnlyL (cutP pu sf (ns.take i)) = true := fun i => tupOnlyL_iff.mpr (cutP_to (fun p hp => (od.hpu p hp).1) _ _ od.hsf)
      refine y_forL (fun i σ H' => Ex H H' ∧ ∃ (o : Option V) (vs : List V), σ = [some (.ref dd), some (.ref lk), some (.ref l), o] ∧ H' l = some (.lst vs) ∧ WtL K H' vs (cutP pu sf (ns.take i))) (x1 _ _ hk) ⟨x1, _, ys, rfl, h1, w2.ex x1⟩ (fun i σ H' p => p.1 _ _ hk) (fun i x σ H' hx p => ?_) fun σ H' p => ?_
      · obtain ⟨ex, oo, vs, rfl, hl, wl⟩ := p
        obtain ⟨n, hn, rfl⟩ := nums_at hx
        have hlt := ha n (List.mem_of_getElem? hn)
        obtain ⟨p, hp1⟩ : ∃ p, pu[n]? = some p := ⟨pu[n], List.getElem?_eq_getElem hlt⟩
        have hpm := od.hpu _ (List.mem_of_getElem? hp1)
        have hpd : (pu.map putD)[n]? = some (putD p) := by rw [List.getElem?_map, hp1]; rfl
        obtain ⟨x0, hx0, wx0⟩ := w3.getD hpd
        have wx0 := wx0.ex ex
        walk_at "y"
        refine x_kdgetK (ex _ _ hd.d) rfl ?_
        walk_at "y"
        refine x_ixl (ex _ _ e3) rfl hx0 ?_
        walk_at "y"
        refine x_ixd (n := 1) (d := p.2) wx0 rfl rfl fun u2 wu2 => ?_
        walk_at "y"
        refine x_kdgetK (ex _ _ hd.d) rfl ?_
        walk_at "y"
        refine x_ixl (ex _ _ e3) rfl hx0 ?_
        walk_at "y"
        refine x_ixd (n := 0) (d := .int (p.1 : Int)) wx0 rfl rfl fun u4 wu4 => ?_
        cases wu4
        have hlen : p.1 < vs.length := by
          rw [wl.len, cutP_len]
          exact hpm.2
        refine x_setl hl rfl hlen fun H3 g3 h3 => ?_
        refine ⟨ex_of_go ex n1 g3, _, _, rfl, h3, ?_⟩
        have := cto (i + 1)
        rw [cutP_take hn hp1] at this ⊢
        exact (wl.set wu2 p.1).go g3 this
      · obtain ⟨ex, oo, vs, rfl, hl, wl⟩ := p
        have et : ns.take (nums ns).length = ns := by unfold nums; rw [List.length_map, List.take_length]
        have ct := cto (nums ns).length
        rw [et] at wl ct
        walk_at "y"
        refine x_lstl hl fun p2 H2 x2 n2 h2 => ?_
        walk_at "y"
        refine x_mkl (vs := []) fun p3 H3 x3 n3 h3 => ?_
        walk_at "y"
        refine x_mkr fun p4 H4 x4 n4 h4 => ?_
        walk_at "y"
        refine x_gtup h4 rfl ?_
        have E4 := ex.trans (x2.trans (x3.trans x4))
        walk_at "y"
        refine x_setD (E4 _ _ hd.d) (by simp) rfl fun H5 g5 h5 => ?_
        replace h5 : H5 dd = some (.dK [(sK "slots", .ref l), (sK "safe", .ref lf), (sK "puts", .ref lp)]) := h5
        walk_at "y"
        refine x_setD h5 (by simp) rfl fun H6 g6 h6 => ?_
        replace h6 : H6 dd = some (.dK [(sK "slots", .ref l), (sK "safe", .ref p2), (sK "puts", .ref lp)]) := h6
        walk_at "y"
        refine x_setD h6 (by simp) rfl fun H7 g7 h7 => ?_
        replace h7 : H7 dd = some (.dK [(sK "slots", .ref l), (sK "safe", .ref p2), (sK "puts", .ref p3)]) := h7
        walk_at "y"
        have G : Go [dd] H4 H7 := (g5.trans g6).trans g7
        have nd : ∀ l zs, H4 l = some (.lst zs) → l ∉ [dd] := fun l zs e z => by
          have := E4 _ _ hd.d
          rw [← List.mem_singleton.mp z, e] at this
          cases this
        have kl := (x2.trans (x3.trans x4)) _ _ hl
        have k2 := (x3.trans x4) _ _ h2
        have k3 := x4 _ _ h3
        refine q l p2 p3 H7 (E4.go.trans G) n1 (ex.free n2) ((ex.trans x2).free n3) ⟨h7, ⟨_, G.keep _ _ (nd _ _ kl) kl, (wl.ex (x2.trans (x3.trans x4))).go G ct⟩, ⟨_, G.keep _ _ (nd _ _ k2) k2, (wl.ex (x2.trans (x3.trans x4))).go G ct⟩, ⟨[], G.keep _ _ (nd _ _ k3) k3, .nil⟩, fun z => ?_, fun z => ?_, fun z => ?_⟩
        · rw [z, n2] at hl; cases hl
        · have := x2 _ _ hl; rw [z, n3] at this; cases this
        · rw [z, n3] at h2; cases h2
    · skip
      refine ⟨_, (pss_cons (ps_set (i := 2) sc_cut.nd rfl (by first | exact Or.inl rfl | exact Or.inr rfl) (pe_callTy cList (by rfl) T.list (by decide +kernel) (pa_cons (pe_dget hu1 (pv 0) pe_str (fun _ _ => rfl)) pa_nil)))
    (pss_cons (ps_for (passes_of rfl) rfl (pi_tup (pv 1)) (pg_name (i := 3) sc_cut.nd rfl (by first | exact Or.inl rfl | exact Or.inr rfl))
    (pss_one (ps_asg (pe_ix (oIxK K) (pe_ix (oIxK K) (pe_dget hu1 (pv 0) pe_str (fun _ _ => rfl)) (pv 3) (fun _ _ => rfl)) pe_int (fun _ _ => rfl)) (pg_sub (pv 2) (pe_ix (oIxK K) (pe_ix (oIxK K) (pe_dget hu1 (pv 0) pe_str (fun _ _ => rfl)) (pv 3) (fun _ _ => rfl)) pe_int (fun _ _ => rfl)) set_list))))
    (pss_one (ps_asg (pe_tup (pa_cons (pv 2) (pa_cons (pe_callTy cList (by rfl) T.list (by decide +kernel) (pa_cons (pv 2) pa_nil)) (pa_cons (pe_lst pa_nil) pa_nil)))) (pg_tup (n := 3) rfl (pgs_cons (pg_sub (pv 0) pe_str (set_dict hu1)) (pgs_cons (pg_sub (pv 0) pe_str (set_dict hu1)) (pgs_cons (pg_sub (pv 0) pe_str (set_dict hu1)) pgs_nil)))))))), ?_⟩
      try dsimp only [cxOf]
      walk_at "y"
      refine x_kdgetK hd.d rfl ?_
      walk_at "y"
      refine x_lstl e2 fun l H1 x1 n1 h1 => ?_
      walk_at "y"
      have cto : ∀ i, tupOnlyL (cutP pu sf (ns.take i)) = true := fun i => tupOnlyL_iff.mpr (cutP_to (fun p hp => (od.hpu p hp).1) _ _ od.hsf)
      refine y_forT (fun i σ H' => Ex H H' ∧ ∃ (o : Option V) (vs : List V), σ = [some (.ref dd), some (.ref lk), some (.ref l), o] ∧ H' l = some (.lst vs) ∧ WtL K H' vs (cutP pu sf (ns.take i))) (x1 _ _ hk) ⟨x1, _, ys, rfl, h1, w2.ex x1⟩ (fun i σ H' p => p.1 _ _ hk) (fun i x σ H' hx p => ?_) fun σ H' p => ?_
      · obtain ⟨ex, oo, vs, rfl, hl, wl⟩ := p
        obtain ⟨n, hn, rfl⟩ := nums_at hx
        have hlt := ha n (List.mem_of_getElem? hn)
        obtain ⟨p, hp1⟩ : ∃ p, pu[n]? = some p := ⟨pu[n], List.getElem?_eq_getElem hlt⟩
        have hpm := od.hpu _ (List.mem_of_getElem? hp1)
        have hpd : (pu.map putD)[n]? = some (putD p) := by rw [List.getElem?_map, hp1]; rfl
        obtain ⟨x0, hx0, wx0⟩ := w3.getD hpd
        have wx0 := wx0.ex ex
        walk_at "y"
        refine x_kdgetK (ex _ _ hd.d) rfl ?_
        walk_at "y"
        refine x_ixl (ex _ _ e3) rfl hx0 ?_
        walk_at "y"
        refine x_ixd (n := 1) (d := p.2) wx0 rfl rfl fun u2 wu2 => ?_
        walk_at "y"
        refine x_kdgetK (ex _ _ hd.d) rfl ?_
        walk_at "y"
        refine x_ixl (ex _ _ e3) rfl hx0 ?_
        walk_at "y"
        refine x_ixd (n := 0) (d := .int (p.1 : Int)) wx0 rfl rfl fun u4 wu4 => ?_
        cases wu4
        have hlen : p.1 < vs.length := by
          rw [wl.len, cutP_len]
          exact hpm.2
        refine x_setl hl rfl hlen fun H3 g3 h3 => ?_
        refine ⟨ex_of_go ex n1 g3, _, _, rfl, h3, ?_⟩
        have := cto (i + 1)
        rw [cutP_take hn hp1] at this ⊢
        exact (wl.set wu2 p.1).go g3 this
      · obtain ⟨ex, oo, vs, rfl, hl, wl⟩ := p
        have et : ns.take (nums ns).length = ns := by unfold nums; rw [List.length_map, List.take_length]
        have ct := cto (nums ns).length
        rw [et] at wl ct
        walk_at "y"
        refine x_lstl hl fun p2 H2 x2 n2 h2 => ?_
        walk_at "y"
        refine x_mkl (vs := []) fun p3 H3 x3 n3 h3 => ?_
        walk_at "y"
        refine x_mkr fun p4 H4 x4 n4 h4 => ?_
        walk_at "y"
        refine x_gtup h4 rfl ?_
        have E4 := ex.trans (x2.trans (x3.trans x4))
        walk_at "y"
        refine x_setD (E4 _ _ hd.d) (by simp) rfl fun H5 g5 h5 => ?_
        replace h5 : H5 dd = some (.dK [(sK "slots", .ref l), (sK "safe", .ref lf), (sK "puts", .ref lp)]) := h5
        walk_at "y"
        refine x_setD h5 (by simp) rfl fun H6 g6 h6 => ?_
        replace h6 : H6 dd = some (.dK [(sK "slots", .ref l), (sK "safe", .ref p2), (sK "puts", .ref lp)]) := h6
        walk_at "y"
        refine x_setD h6 (by simp) rfl fun H7 g7 h7 => ?_
        replace h7 : H7 dd = some (.dK [(sK "slots", .ref l), (sK "safe", .ref p2), (sK "puts", .ref p3)]) := h7
        walk_at "y"
        have G : Go [dd] H4 H7 := (g5.trans g6).trans g7
        have nd : ∀ l zs, H4 l = some (.lst zs) → l ∉ [dd] := fun l zs e z => by
          have := E4 _ _ hd.d
          rw [← List.mem_singleton.mp z, e] at this
          cases this
        have kl := (x2.trans (x3.trans x4)) _ _ hl
        have k2 := (x3.trans x4) _ _ h2
        have k3 := x4 _ _ h3
        refine q l p2 p3 H7 (E4.go.trans G) n1 (ex.free n2) ((ex.trans x2).free n3) ⟨h7, ⟨_, G.keep _ _ (nd _ _ kl) kl, (wl.ex (x2.trans (x3.trans x4))).go G ct⟩, ⟨_, G.keep _ _ (nd _ _ k2) k2, (wl.ex (x2.trans (x3.trans x4))).go G ct⟩, ⟨[], G.keep _ _ (nd _ _ k3) k3, .nil⟩, fun z => ?_, fun z => ?_, fun z => ?_⟩
        · rw [z, n2] at hl; cases hl
        · have := x2 _ _ hl; rw [z, n3] at this; cases this
        · rw [z, n3] at h2; cases h2
/-- told of entries -/
def spCut (K : PySem.W.Frag) : Sp := fun vs H Q _ => ∃ dd ls lf lp lk ns S F U M, vs = [.ref dd, .ref lk] ∧ H lk = some (.lst (nums ns)) ∧ LDisk K dd ls lf lp S F U H ∧ DskOk S F U M ∧ Asc ns U.length ∧
  ∀ ls' lf' lp' H', Go [dd] H H' → H ls' = none → H lf' = none → H lp' = none → LDisk K dd ls' lf' lp' (cutS U F ns) (cutS U F ns) [] H' → Q .non H'
theorem cut_of (c : Cal P w K mg base 1 "_law_cut" (spCutD K)) : Cal P w K mg base 1 "_law_cut" (spCut K) := cal_weak c fun vs H Q E ⟨dd, ls, lf, lp, lk, ns, S, F, U, M, ev, hk, hd, od, ha, q⟩ =>
  ⟨dd, ls, lf, lp, lk, ns, S.map slD, F.map slD, U.map entP, ev, .inl hk, hd, od.d, fun n hn => by rw [List.length_map]; exact ha.2 n hn, fun ls' lf' lp' H' g h1 h2 h3 h => q ls' lf' lp' H' g h1 h2 h3 (by rw [cut_map] at h; exact h)⟩
end
end Y
/-! part C6 -/
/-! The law's own book. -/
namespace Y
open PySem L2
theorem go_free {S : List Addr} {H H' : Hp} {a : Addr} (g : Go S H H') (hs : ∀ s ∈ S, H' s ≠ none) (h : H' a = none) : H a = none := by
  cases q : H a with
  | none => rfl
  | some o =>
    by_cases c : a ∈ S
    · exact absurd h (hs a c)
    · rw [g.keep a o c q] at h; cases h
local macro_rules | `(tactic| walk_at "y1") => `(tactic| (first
  | (with_reducible refine x_seq ?_) | (with_reducible refine x_asg ?_) | (with_reducible refine x_name ?_) | (with_reducible refine x_drop ?_) | (with_reducible refine x_ret ?_) | (with_reducible refine x_retN ?_)
  | (with_reducible refine x_next ?_) | (with_reducible refine x_brk ?_) | (with_reducible refine x_ifS ?_)
  | (with_reducible refine x_c ?_) | (with_reducible refine x_op ?_) | (with_reducible refine x_un ?_) | (with_reducible refine x_cb ?_) | (with_reducible refine x_cons ?_) | (with_reducible refine x_nil ?_)
  | (with_reducible refine x_call ?_) | (with_reducible refine x_tup ?_) | (with_reducible refine x_lst ?_) | (with_reducible refine x_sl ?_) | (with_reducible refine x_nopart ?_) | (with_reducible refine x_part ?_)
  | (with_reducible refine x_andV ?_) | (with_reducible refine x_orV ?_) | (with_reducible refine x_notV ?_) | (with_reducible refine x_if ?_) | (with_reducible refine x_test ?_) | (with_reducible refine x_tb ?_)
  | (with_reducible refine x_and ?_) | (with_reducible refine x_or ?_) | (with_reducible refine x_not ?_) | (with_reducible refine x_chain ?_) | (with_reducible refine x_exbl ?_) | (with_reducible refine x_exint ?_)
  | (with_reducible refine x_fld ?_) | (with_reducible refine x_sfld ?_) | (with_reducible refine x_par ?_) | (with_reducible refine x_par3 ?_) | (with_reducible refine x_dget ?_) | (with_reducible refine x_dput ?_)
  | (with_reducible refine x_bm ?_) | (with_reducible refine x_bm0 ?_) | (with_reducible refine x_pair ?_) | (with_reducible refine x_tri ?_) | (with_reducible refine x_int ?_) | (with_reducible refine x_intb ?_) | (with_reducible refine x_abs ?_) | (with_reducible refine x_isN ?_) | (with_reducible refine x_notN ?_) | (with_reducible refine x_meth ?_) | (with_reducible refine x_make ?_)
  | (with_reducible refine x_ite1 ?_) | (with_reducible refine x_ite0 ?_)
  | (with_reducible refine x_addi ?_) | (with_reducible refine x_neg ?_) | (with_reducible refine x_i0 ?_) | (with_reducible refine x_eqi ?_) | (with_reducible refine x_eqs ?_) | (with_reducible refine x_eqb ?_) | (with_reducible refine x_nei ?_) | (with_reducible refine x_lti ?_)
  | (with_reducible refine x_forL ?_) | (with_reducible refine x_forT ?_) | (with_reducible refine x_forR ?_) | (with_reducible refine x_forR2 ?_) | (with_reducible refine x_lcL ?_) | (with_reducible refine x_lcT ?_) | (with_reducible refine x_lcR ?_)
  | (with_reducible refine x_yes ?_) | (with_reducible refine x_pcons ?_) | (with_reducible refine x_pnil ?_) | (with_reducible refine x_gcons ?_) | (with_reducible refine x_gnil ?_) | (with_reducible refine x_gattr ?_) | (with_reducible refine x_raise ?_) | (with_reducible refine x_gsub ?_) | (with_reducible refine x_fldaug ?_) | (with_reducible refine x_radd ?_) | (with_reducible refine x_ipi ?_) | ((with_reducible refine x_aug (x := ?vv) ?hh ?qq); (case hh => exact rfl))
  | ((with_reducible refine x_iteA ?hc ?q); (case hc => exact rfl)) | ((with_reducible refine x_iteB ?hc ?q); (case hc => exact rfl))
  | ((with_reducible refine x_var (v := ?vv) ?hh ?qq); (case hh => exact rfl))
  | ((with_reducible refine r_isInt (d := ?dd) ?hh ?qq); (case hh => assumption)) | ((with_reducible refine r_isBool (d := ?dd) ?hh ?qq); (case hh => assumption)) | ((with_reducible refine r_isTup (d := ?dd) ?hh ?qq); (case hh => assumption))
  | ((with_reducible refine r_isStr (d := ?dd) ?hh ?qq); (case hh => assumption)) | ((with_reducible refine r_isLst (d := ?dd) ?hh ?qq); (case hh => assumption))))
local macro_rules | `(tactic| walk_at "y") => `(tactic| (repeat (walk_at "y1")))
section
variable {P : Program} {w : World} {K : PySem.W.Frag} {mg : Str → Option Value} {base : Heap}
abbrev ownF (b : Bk) (v : V) : List (L2.Key × V) := [(sK "life", .int (b.life : Int)), (sK "generation", .int (b.gen : Int)), (sK "half", .int (b.half : Int)), (sK "last", .int (b.last : Int)), (sK "page", v)]
def OwnAt (K : PySem.W.Frag) (od : Addr) (b : Bk) (H : Hp) : Prop := ∃ v, H od = some (.dK (ownF b v)) ∧ Wt K H v (pageD b.page)
theorem OwnAt.go {L : List Addr} {a : Addr} {b : Bk} {H H' : Hp} (h : OwnAt K a b H) (o : PageOk b.page) (g : Go L H H') (n : a ∉ L) : OwnAt K a b H' := by
  obtain ⟨v, e, w⟩ := h
  exact ⟨v, g.keep a _ n e, w.go g (lay_page o).to⟩
def spBookL (K : PySem.W.Frag) : Sp := fun vs H Q _ => ∃ dd ls lf lp y first S F U M r0 r1, vs = [.ref dd, y] ∧ LDisk K dd ls lf lp S F U H ∧ DskOk S F U M ∧ U.length ≤ 150 ∧ Wt K H y (pageD first) ∧ PageOk first ∧ RH S M 0 r0 ∧ RH S M M r1 ∧
  (match pickH r0 r1 with
   | none => ∀ od lf' lp' H', Go [dd, ls, lp] H H' → H od = none → (H lf' = none ∧ H lp' = none) → OwnAt K od (openB S (pickH r0 r1) first) H' → LDisk K dd ls lf' lp' (S.set 0 (some ⟨1, 1 + lifeOf S, 0, first⟩)) (S.set 0 (some ⟨1, 1 + lifeOf S, 0, first⟩)) [] H' → Q (.ref od) H'
   | some _ => ∀ od H', Ex H H' → H od = none → OwnAt K od (openB S (pickH r0 r1) first) H' → Q (.ref od) H')
abbrev s_book : Stmt := top 42
abbrev nms_book : List Str := ["disk", "first", "life", "found", "entry"]
theorem sc_book : FnScope nms_book ["disk", "first"] (defScope s_book) := ⟨rfl, rfl, rfl, by decide +kernel, rfl, by decide +kernel, by decide +kernel⟩
theorem ok_book {f : Addr} {fd : FuncData} (F : Fun K "_law_book" "_law_book" s_book f fd) (hm : mg "_law_book" = some (.ref f)) (b : Binds K fd ["disk", "first"] []) (T : Bt mg) (c_read : Cal P w K mg base 3 "_law_read" (spReadL K)) (c_put : Cal P w K mg base 1 "_law_put" (spPutL K)) (c_safe : Cal P w K mg base 1 "_law_safe" (spSafe K)) : Cal P w K mg base 4 "_law_book" (spBookL K) := by
  refine cal_of F hm b sc_book (fun vs H Q E h => ?_) (fun cdv A outer s H vs Q E hr h => ?_)
  · obtain ⟨dd, ls, lf, lp, y, first, S, F, U, M, r0, r1, rfl, _⟩ := h
    rfl
  · obtain ⟨dd, ls, lf, lp, y, first, S, F, U, M, r0, r1, rfl, hd, od, hU, wy, hp, h0, h1, q⟩ := h
    have hu64 := pass_hu64 hr
    have hu1 : (A.deeper (PyProof.Rows.envOfC "_law_book" (defScope s_book) s.heap.objs.size f cdv)).units + 1 < cLine := by have := hr.un; omega
    refine ⟨_, (pss_cons (ps_set (i := 2) sc_book.nd rfl (by first | exact Or.inl rfl | exact Or.inr rfl) (pe_op (oAddK K) pe_int (pe_callB (cr_max rfl) (by rfl) T.max (by decide +kernel) (pa_cons (pe_op (oAddK K) (pe_lst (pa_cons pe_int pa_nil)) (pe_lc (own := [("entry", 4)]) rfl sc_book.nd (pi_list (pe_dget hu1 (pv 0) pe_str (fun _ _ => rfl))) (blkOk_by (N := nms_book) (sc := defScope s_book) (by decide +kernel)) (fun _ _ _ _ _ => (pg_name (i := 4) sc_book.nd rfl (by first | exact Or.inl rfl | exact Or.inr rfl))) (fun _ _ _ _ _ => (pts_one (pt_cmpR (oNeK K hu64) (pv 4) (pe_tup pa_nil) (nomark _)))) (fun _ _ _ _ _ => (pe_ix (oIxK K) (pv 4) pe_int (fun _ _ => rfl))))) pa_nil))))
    (pss_cons (ps_set (i := 3) sc_book.nd rfl (by first | exact Or.inl rfl | exact Or.inr rfl) (pe_c c_read hr (by decide) (by rfl) (pa_cons (pe_dget hu1 (pv 0) pe_str (fun _ _ => rfl)) pa_nil)))
    (pss_cons (ps_if (pt_cmpR op_isN1 (pv 3) pe_non (nomark _))
    (pss_cons (ps_expr (pe_c c_put hr (by decide) (by rfl) (pa_cons (pv 0) (pa_cons pe_int (pa_cons (pe_tup (pa_cons pe_int (pa_cons (pv 2) (pa_cons pe_int (pa_cons (pv 1) pa_nil))))) pa_nil)))))
    (pss_cons (ps_expr (pe_c c_safe hr (by decide) (by rfl) (pa_cons (pv 0) pa_nil)))
    (pss_one (ps_set (i := 3) sc_book.nd rfl (by first | exact Or.inl rfl | exact Or.inr rfl) (pe_tup (pa_cons pe_int (pa_cons pe_int (pa_cons pe_int (pa_cons (pv 1) pa_nil)))))))))
    pss_nil)
    (pss_one (ps_ret (pe_disp (pps_cons pe_str (pv 2) (pps_cons pe_str (pe_ix (oIxK K) (pv 3) pe_int (fun _ _ => rfl)) (pps_cons pe_str (pe_ix (oIxK K) (pv 3) pe_int (fun _ _ => rfl)) (pps_cons pe_str (pe_ix (oIxK K) (pv 3) pe_int (fun _ _ => rfl)) (pps_cons pe_str (pe_ix (oIxK K) (pv 3) pe_int (fun _ _ => rfl)) pps_nil))))) (by rfl) (by rfl) (fun z => by cases z) (by decide))))))), ?_⟩
    try dsimp only [cxOf]
    obtain ⟨xs, e1, w1⟩ := hd.s
    have m1 := od.m1
    have m2 := od.m2
    walk_at "y"
    refine x_mkl fun l4 H4 e4 n4 h4 => ?_
    walk_at "y"
    refine x_kdgetK (e4 _ _ hd.d) rfl ?_
    refine y_lcL [] (fun _ => True) (fun i ds => ds = (livesN (S.take i)).map fun (n : Nat) => PyData.int (n : Int)) (e4 _ _ e1) (by simp) (by rw [w1.len, List.length_map, od.ls]; omega) (by simp) keeps_true trivial rfl (fun i x H5 ds hx g5 _ hds ok no hok hno => ?_) (fun E5 acc ds H5 nE g5 _ hE wd t hds => ?_)
    · refine turn_nameT rfl ?_
      obtain ⟨ed, hed, we⟩ := w1.get hx
      rw [List.getElem?_map] at hed
      cases es : S[i]? with
      | none => rw [es] at hed; cases hed
      | some s0 =>
        rw [es] at hed
        cases hed
        have sok := od.s s0 (List.mem_of_getElem? es)
        have we := (we.ex e4).ex g5.ex
        walk_at "y"
        refine x_mkt (K := K) .nil fun u6 H6 e6 w6 => ?_
        refine x_ned (we.ex e6) w6 (lay_slot sok).shaped rfl ?_
        cases s0 with
        | none =>
          rw [show PyData.eqv (slD none) (.tuple []) = true from rfl]
          walk_at "y"
          refine hno H6 e6.go trivial ?_
          dsimp only
          rw [lives_snoc es, List.append_nil]
          exact hds
        | some e0 =>
          rw [show PyData.eqv (slD (some e0)) (.tuple []) = false from rfl]
          walk_at "y"
          refine x_ixd (n := 1) (d := .int (e0.l : Int)) (we.ex e6) rfl rfl fun u7 w7 => ?_
          refine hok u7 _ H6 e6.go trivial w7 rfl ?_
          dsimp only
          rw [lives_snoc es, hds, List.map_append]
          rfl
    · rw [w1.len, List.length_map, List.take_length] at hds
      subst hds
      have hacc : acc = ((livesN S).map fun (n : Nat) => (n : Int)).map V.int := by
        refine ints_of (K := K) (H := H5) ?_
        rw [List.map_map]
        exact wd
      have h45 := g5.ex _ _ h4
      refine x_addl h45 hE (by rw [hacc]; simp only [List.length_map, List.length_cons, List.length_nil]; have := lives_len S; rw [od.ls] at this; omega) fun p6 H6 e6 n6 h6 => ?_
      rw [hacc, show [V.int 0] ++ ((livesN S).map fun (n : Nat) => (n : Int)).map V.int = ((0 : Int) :: (livesN S).map fun (n : Nat) => (n : Int)).map V.int from rfl] at h6
      walk_at "y"
      refine x_max h6 (by simp) fun m hm1 hm2 => ?_
      rw [life_is hm1 hm2]
      walk_at "y"
      have E6 : Ex H H6 := e4.trans (g5.ex.trans e6)
      rw [show ((1 : Int) + (lifeOf S : Int)) = ((1 + lifeOf S : Nat) : Int) from by omega]
      refine x_kdgetK (E6 _ _ hd.d) rfl ?_
      walk_at "y"
      refine ⟨ls, xs, S, M, r0, r1, rfl, E6 _ _ e1, w1.ex E6, od.ls, m1, m2, od.s, h0, h1, fun u7 H7 e7 w7 => ?_⟩
      have E7 := E6.trans e7
      have hd7 := hd.go od E7.go (L := []) (by simp)
      have wy7 := wy.ex E7
      -- the dict, of any book
      have fin : ∀ (σ : L2.St) (H8 : Hp) (bk : Bk) (u : V), PageOk bk.page → σ[2]? = some (some (.int ((1 + lifeOf S : Nat) : Int))) → σ[3]? = some (some u) → Wt K H8 u (.tuple [.int (bk.gen : Int), .int (bk.half : Int), .int (bk.last : Int), pageD bk.page]) → bk.life = 1 + lifeOf S →
          (∀ od H', Ex H8 H' → H8 od = none → OwnAt K od bk H' → Q (.ref od) H') →
          tDisp [(tC (V.str "life"), tVar 2), (tC (V.str "generation"), tOp (rIxU K) (tVar 3) (tC (V.int 0))), (tC (V.str "half"), tOp (rIxU K) (tVar 3) (tC (V.int 1))), (tC (V.str "last"), tOp (rIxU K) (tVar 3) (tC (V.int 2))), (tC (V.str "page"), tOp (rIxU K) (tVar 3) (tC (V.int 3)))] σ H8 Q := fun σ H8 bk u pok z1 z2 wu hlf qq => by
        refine x_disp fun p H9 e9 n9 h9 => ?_
        have wu := wu.ex e9
        refine x_pcons (x_c (x_var z1 (x_pcons (x_c (x_op (x_var z2 (x_c (x_ixd (n := 0) (d := .int (bk.gen : Int)) wu rfl rfl fun v1 w1 => ?_))))))))
        cases w1
        refine x_pcons (x_c (x_op (x_var z2 (x_c (x_ixd (n := 1) (d := .int (bk.half : Int)) wu rfl rfl fun v2 w2 => ?_)))))
        cases w2
        refine x_pcons (x_c (x_op (x_var z2 (x_c (x_ixd (n := 2) (d := .int (bk.last : Int)) wu rfl rfl fun v3 w3 => ?_)))))
        cases w3
        refine x_pcons (x_c (x_op (x_var z2 (x_c (x_ixd (n := 3) (d := pageD bk.page) wu rfl rfl fun v4 w4 => x_pnil ?_)))))
        refine x_kdisp (ownF bk v4) _ h9 (by rw [show ownF bk v4 = [(sK "life", .int (bk.life : Int)), (sK "generation", .int (bk.gen : Int)), (sK "half", .int (bk.half : Int)), (sK "last", .int (bk.last : Int)), (sK "page", v4)] from rfl, hlf]; rfl) (by simp) rfl fun H10 g10 h10 => ?_
        replace h10 : H10 p = some (.dK (ownF bk v4)) := h10
        exact qq p H10 (ex_of_go e9 n9 g10) n9 ⟨v4, h10, w4.go g10 (lay_page pok).to⟩
      cases hpk : pickH r0 r1 with
      | none =>
        rw [hpk] at w7 q
        have q : ∀ od lf' lp' H', Go [dd, ls, lp] H H' → H od = none → (H lf' = none ∧ H lp' = none) → OwnAt K od ⟨1 + lifeOf S, 1, 0, 0, first⟩ H' → LDisk K dd ls lf' lp' (S.set 0 (some ⟨1, 1 + lifeOf S, 0, first⟩)) (S.set 0 (some ⟨1, 1 + lifeOf S, 0, first⟩)) [] H' → Q (.ref od) H' := q
        cases w7
        walk_at "y"
        refine x_mkt (.cons (.int _) (.cons (.int _) (.cons (.int _) (.cons wy7 .nil)))) fun u8 H8 e8 w8 => ?_
        walk_at "y"
        have hd8 := hd7.go od e8.go (L := []) (by simp)
        refine ⟨dd, ls, lf, lp, 0, u8, ⟨1, 1 + lifeOf S, 0, first⟩, S, F, U, M, rfl, hd8, od, by omega, w8, hp, fun H9 g9 h9 => ?_⟩
        have sset : ∀ s ∈ S.set 0 (some (⟨1, 1 + lifeOf S, 0, first⟩ : Entry)), SlotOk s := fun s hs => by
          rcases List.mem_or_eq_of_mem_set hs with z | z
          · exact od.s s z
          · rw [z]; intro e he; cases he; exact hp
        have od9 : DskOk (S.set 0 (some (⟨1, 1 + lifeOf S, 0, first⟩ : Entry))) F (U ++ [((0 : Nat), (⟨1, 1 + lifeOf S, 0, first⟩ : Entry))]) M := ⟨sset, od.f, fun p hp' => by
          rcases List.mem_append.mp hp' with z | z
          · exact od.u p z
          · rw [List.mem_singleton.mp z]; exact ⟨hp, by show 0 < 2 * M; omega⟩, by rw [List.length_set]; exact od.ls, od.lf, od.m1, od.m2, by rw [List.length_append]; simp; omega⟩
        walk_at "y"
        refine ⟨dd, ls, lf, lp, _, _, _, M, rfl, h9, od9, fun lf' lp' H10 g10 n10 m10 h10 => ?_⟩
        have wy10 : Wt K H10 y (pageD first) := ((wy7.ex e8).go g9 (lay_page hp).to).go g10 (lay_page hp).to
        have e78 := E7.trans e8
        have Ex9 : ∀ a, H9 a = none → H a = none := fun a ha => e78.free (go_free g9 (fun s hs => by
          obtain ⟨_, k1, _⟩ := h9.s
          obtain ⟨_, k2, _⟩ := h9.p
          simp only [List.mem_cons, List.not_mem_nil, or_false] at hs
          rcases hs with rfl | rfl
          · rw [k1]; simp
          · rw [k2]; simp) ha)
        have Ex10 : ∀ a, H10 a = none → H a = none := fun a ha => Ex9 a (go_free g10 (fun s hs => by
          rw [List.mem_singleton.mp hs, h10.d]; simp) ha)
        have od10 : DskOk (S.set 0 (some (⟨1, 1 + lifeOf S, 0, first⟩ : Entry))) (S.set 0 (some (⟨1, 1 + lifeOf S, 0, first⟩ : Entry))) [] M := ⟨sset, sset, by simp, od9.ls, od9.ls, od.m1, od.m2, by simp⟩
        walk_at "y"
        refine x_mkt (.cons (.int _) (.cons (.int _) (.cons (.int _) (.cons wy10 .nil)))) fun u11 H11 e11 w11 => ?_
        walk_at "y"
        exact fin _ H11 ⟨1 + lifeOf S, 1, 0, 0, first⟩ _ hp rfl rfl w11 rfl fun od' H' ex hn how => q od' lf' lp' H' (e78.go.trans ((g9.mono (by simp)).trans ((g10.mono (by simp)).trans (e11.trans ex).go))) (Ex10 _ (e11.free hn)) ⟨Ex9 _ n10, Ex9 _ m10⟩ how (h10.go od10 (e11.trans ex).go (L := []) (by simp))
      | some r =>
        obtain ⟨g, h, l, p⟩ := r
        rw [hpk] at w7 q
        have q : ∀ od H', Ex H H' → H od = none → OwnAt K od ⟨1 + lifeOf S, g, h, l, p⟩ H' → Q (.ref od) H' := q
        have w7' := w7
        cases w7' with
        | @tup a9 xs9 _ ea9 wa9 =>
        have pok : PageOk p := by
          unfold pickH at hpk
          split at hpk
          · cases hpk
          · cases hpk; cases h1 with
            | some rd => exact rd.page od.s
          · cases hpk; cases h0 with
            | some rd => exact rd.page od.s
          · split at hpk
            · cases hpk; cases h1 with
              | some rd => exact rd.page od.s
            · cases hpk; cases h0 with
              | some rd => exact rd.page od.s
        walk_at "y"
        exact fin _ H7 ⟨1 + lifeOf S, g, h, l, p⟩ _ pok rfl rfl w7 rfl fun od' H' ex hn how => q od' H' (E7.trans ex) (E7.free hn) how
/-! ### add -/
def spAddL (K : PySem.W.Frag) : Sp := fun vs H Q _ => ∃ dd ls lf lp od y p b S F U M, vs = [.ref dd, .ref od, y] ∧ LDisk K dd ls lf lp S F U H ∧ DskOk S F U M ∧ OwnAt K od b H ∧ PageOk b.page ∧ b.half ≤ 1 ∧ b.last < M ∧ Wt K H y (pageD p) ∧ PageOk p ∧ od ≠ dd ∧
  ∀ lf' lp' H', Go [dd, od, ls, lp] H H' → (lf' = lf ∨ H lf' = none) → (lp' = lp ∨ H lp' = none) → OwnAt K od (addB M b p) H' →
    LDisk K dd ls lf' lp' (S.set (addN M b) (some (addE M b p))) (if b.last + 1 < M then F else S) (if b.last + 1 < M then U ++ [(addN M b, addE M b p)] else [(addN M b, addE M b p)]) H' → Q .non H'
abbrev s_add : Stmt := top 43
abbrev nms_add : List Str := ["disk", "book", "row", "size", "thing"]
theorem sc_add : FnScope nms_add ["disk", "book", "row"] (defScope s_add) := ⟨rfl, rfl, rfl, by decide +kernel, rfl, by decide +kernel, by decide +kernel⟩
theorem ok_add {f : Addr} {fd : FuncData} (F : Fun K "_law_add" "_law_add" s_add f fd) (hm : mg "_law_add" = some (.ref f)) (b : Binds K fd ["disk", "book", "row"] []) (T : Bt mg) (c_over : Cal P w K mg base 1 "_law_over" (spOver K)) (c_put : Cal P w K mg base 1 "_law_put" (spPutL K)) (c_safe : Cal P w K mg base 1 "_law_safe" (spSafe K)) : Cal P w K mg base 2 "_law_add" (spAddL K) := by
  refine cal_of F hm b sc_add (fun vs H Q E h => ?_) (fun cdv A outer s H vs Q E hr h => ?_)
  · obtain ⟨dd, ls, lf, lp, od, y, p, b, S, F, U, M, rfl, _⟩ := h
    rfl
  · obtain ⟨dd, ls, lf, lp, od, y, p, b, S, F, U, M, rfl, hd, ok, ho, op, h1, h2, wy, hp, nod, q⟩ := h
    have hu64 := pass_hu64 hr
    have hu1 : (A.deeper (PyProof.Rows.envOfC "_law_add" (defScope s_add) s.heap.objs.size f cdv)).units + 1 < cLine := by have := hr.un; omega
    refine ⟨_, (pss_cons (ps_set (i := 3) sc_add.nd rfl (by first | exact Or.inl rfl | exact Or.inr rfl) (pe_op op_fdivN (pe_callB cLen (by rfl) T.len (by decide +kernel) (pa_cons (pe_dget hu1 (pv 0) pe_str (fun _ _ => rfl)) pa_nil)) pe_int))
    (pss_cons (ps_dput hu1 (pv 1) pe_str (pe_c c_over hr (by decide) (by rfl) (pa_cons (pe_dget hu1 (pv 1) pe_str (fun _ _ => rfl)) (pa_cons (pv 2) pa_nil))) rfl)
    (pss_cons (ps_asg (pe_tup (pa_cons (pv 2) (pa_cons (pe_op (oAddK K) (pe_dget hu1 (pv 1) pe_str (fun _ _ => rfl)) pe_int) pa_nil))) (pg_tup (n := 2) rfl (pgs_cons (pg_name (i := 4) sc_add.nd rfl (by first | exact Or.inl rfl | exact Or.inr rfl)) (pgs_cons (pg_sub (pv 1) pe_str (set_dict hu1)) pgs_nil))))
    (pss_cons (ps_if (pt_cmpR (oEqK K hu64) (pe_dget hu1 (pv 1) pe_str (fun _ _ => rfl)) (pv 3) (nomark _))
    (pss_cons (ps_expr (pe_c c_safe hr (by decide) (by rfl) (pa_cons (pv 0) pa_nil)))
    (pss_one (ps_asg (pe_tup (pa_cons (pe_dget hu1 (pv 1) pe_str (fun _ _ => rfl)) (pa_cons pe_int (pa_cons (pe_op op_sub pe_int (pe_dget hu1 (pv 1) pe_str (fun _ _ => rfl))) (pa_cons (pe_op (oAddK K) (pe_dget hu1 (pv 1) pe_str (fun _ _ => rfl)) pe_int) pa_nil))))) (pg_tup (n := 4) rfl (pgs_cons (pg_name (i := 4) sc_add.nd rfl (by first | exact Or.inl rfl | exact Or.inr rfl)) (pgs_cons (pg_sub (pv 1) pe_str (set_dict hu1)) (pgs_cons (pg_sub (pv 1) pe_str (set_dict hu1)) (pgs_cons (pg_sub (pv 1) pe_str (set_dict hu1)) pgs_nil))))))))
    pss_nil)
    (pss_one (ps_expr (pe_c c_put hr (by decide) (by rfl) (pa_cons (pv 0) (pa_cons (pe_op (oAddK K) (pe_op oMul (pe_dget hu1 (pv 1) pe_str (fun _ _ => rfl)) (pv 3)) (pe_dget hu1 (pv 1) pe_str (fun _ _ => rfl))) (pa_cons (pe_tup (pa_cons (pe_dget hu1 (pv 1) pe_str (fun _ _ => rfl)) (pa_cons (pe_dget hu1 (pv 1) pe_str (fun _ _ => rfl)) (pa_cons (pe_dget hu1 (pv 1) pe_str (fun _ _ => rfl)) (pa_cons (pv 4) pa_nil))))) pa_nil)))))))))), ?_⟩
    try dsimp only [cxOf]
    obtain ⟨xs, e1, w1⟩ := hd.s
    obtain ⟨v, eo, wv⟩ := ho
    have m1 := ok.m1
    have m2 := ok.m2
    have lx : xs.length = 2 * M := by rw [w1.len, List.length_map, ok.ls]
    have nls : od ≠ ls := fun z => by rw [z, e1] at eo; cases eo
    have nlf : od ≠ lf := fun z => by obtain ⟨_, k, _⟩ := hd.f; rw [z, k] at eo; cases eo
    have nlp : od ≠ lp := fun z => by obtain ⟨_, k, _⟩ := hd.p; rw [z, k] at eo; cases eo
    have opo : PageOk (over b.page p) := op.over hp
    walk_at "y"
    refine x_kdgetK hd.d rfl ?_
    walk_at "y"
    refine x_lenl e1 ?_
    walk_at "y"
    refine x_iC (cdiv2 _) ?_
    rw [lx, fdiv2, show 2 * M / 2 = M by omega]
    walk_at "y"
    refine x_kdgetK eo rfl ?_
    walk_at "y"
    refine ⟨v, y, b.page, p, rfl, wv, wy, op, hp, fun v2 H2 x2 w2 => ?_⟩
    walk_at "y"
    refine x_kdputK (x2 _ _ eo) (by simp) rfl fun H3 g3 h3 => ?_
    replace h3 : H3 od = some (.dK [(sK "life", .int (b.life : Int)), (sK "generation", .int (b.gen : Int)), (sK "half", .int (b.half : Int)), (sK "last", .int (b.last : Int)), (sK "page", v2)]) := h3
    have w3 : Wt K H3 v2 (pageD (over b.page p)) := w2.go g3 (lay_page opo).to
    have wy3 : Wt K H3 y (pageD p) := (wy.ex x2).go g3 (lay_page hp).to
    have hd3 : LDisk K dd ls lf lp S F U H3 := hd.go ok (x2.go.trans g3) (by simp [Ne.symm nod, Ne.symm nls, Ne.symm nlf, Ne.symm nlp])
    walk_at "y"
    refine x_kdgetK h3 rfl ?_
    walk_at "y"
    refine x_mkr fun p4 H4 x4 n4 h4 => ?_
    walk_at "y"
    refine x_gtup h4 rfl ?_
    walk_at "y"
    refine x_setD (x4 _ _ h3) (by simp) rfl fun H5 g5 h5 => ?_
    replace h5 : H5 od = some (.dK [(sK "life", .int (b.life : Int)), (sK "generation", .int (b.gen : Int)), (sK "half", .int (b.half : Int)), (sK "last", .int ((b.last : Int) + 1)), (sK "page", v2)]) := h5
    have G35 : Go [od] H3 H5 := x4.go.trans g5
    have w5 : Wt K H5 v2 (pageD (over b.page p)) := w3.go G35 (lay_page opo).to
    have wy5 : Wt K H5 y (pageD p) := wy3.go G35 (lay_page hp).to
    have hd5 : LDisk K dd ls lf lp S F U H5 := hd3.go ok G35 (by simp [Ne.symm nod, Ne.symm nls, Ne.symm nlf, Ne.symm nlp])
    have G5 : Go [od] H H5 := x2.go.trans (g3.trans G35)
    have frO : ∀ a, H5 a = none → H a = none := fun a ha => go_free G5 (fun s hs => by rw [List.mem_singleton.mp hs, h5]; simp) ha
    walk_at "y"
    refine x_kdgetK h5 rfl ?_
    walk_at "y"
    -- the end: what is put
    by_cases c : b.last + 1 < M
    · rw [show decide ((b.last : Int) + 1 = M) = false from decide_eq_false (by omega)]
      unfold addB addE addN at q
      simp only [if_pos c] at q
      walk_at "y"
      refine x_kdgetK h5 rfl ?_
      walk_at "y"
      refine x_muli (cmulR _ (by omega)) ?_
      walk_at "y"
      refine x_kdgetK h5 rfl ?_
      walk_at "y"
      refine x_kdgetK h5 rfl ?_
      walk_at "y"
      refine x_kdgetK h5 rfl ?_
      walk_at "y"
      refine x_kdgetK h5 rfl ?_
      walk_at "y"
      rw [show ((b.last : Int) + 1) = ((b.last + 1 : Nat) : Int) from by omega] at h5 ⊢
      refine x_mkt (.cons (.int _) (.cons (.int _) (.cons (.int _) (.cons wy5 .nil)))) fun u6 H6 x6 w6 => ?_
      walk_at "y"
      rw [show ((b.half : Int) * (M : Int) + ((b.last + 1 : Nat) : Int)) = ((b.half * M + (b.last + 1) : Nat) : Int) from by push_cast; rfl]
      refine ⟨dd, ls, lf, lp, b.half * M + (b.last + 1), u6, ⟨b.gen, b.life, b.last + 1, p⟩, S, F, U, M, rfl, hd5.go ok x6.go (L := []) (by simp), ok, place_lt h1 c, w6, hp, fun H7 g7 h7 => ?_⟩
      walk_at "y"
      have how : OwnAt K od ⟨b.life, b.gen, b.half, b.last + 1, over b.page p⟩ H7 := ⟨v2, g7.keep od _ (by simp [nls, nlp]) (x6 _ _ h5), (w5.ex x6).go g7 (lay_page opo).to⟩
      exact q lf lp H7 ((G5.mono (by simp)).trans (x6.go.trans (g7.mono (by simp)))) (.inl rfl) (.inl rfl) how h7
    · rw [show decide ((b.last : Int) + 1 = M) = true from decide_eq_true (by omega)]
      unfold addB addE addN at q
      simp only [if_neg c] at q
      walk_at "y"
      refine ⟨dd, ls, lf, lp, S, F, U, M, rfl, hd5, ok, fun lf' lp' H6 g6 n6 m6 h6 => ?_⟩
      have ok6 : DskOk S S [] M := ⟨ok.s, ok.s, by simp, ok.ls, ok.ls, ok.m1, ok.m2, by simp⟩
      have h56 := g6.keep od _ (by simp [nod]) h5
      have w6 : Wt K H6 v2 (pageD (over b.page p)) := w5.go g6 (lay_page opo).to
      walk_at "y"
      refine x_kdgetK h56 rfl ?_
      walk_at "y"
      refine x_kdgetK h56 rfl ?_
      walk_at "y"
      refine x_kdgetK h56 rfl ?_
      walk_at "y"
      refine x_mkr fun p7 H7 x7 n7 h7 => ?_
      walk_at "y"
      refine x_gtup h7 rfl ?_
      walk_at "y"
      refine x_setD (x7 _ _ h56) (by simp) rfl fun H8 g8 h8 => ?_
      replace h8 : H8 od = some (.dK [(sK "life", .int (b.life : Int)), (sK "generation", .int (b.gen : Int)), (sK "half", .int (b.half : Int)), (sK "last", .int 0), (sK "page", v2)]) := h8
      walk_at "y"
      refine x_setD h8 (by simp) rfl fun H9 g9 h9 => ?_
      replace h9 : H9 od = some (.dK [(sK "life", .int (b.life : Int)), (sK "generation", .int (b.gen : Int)), (sK "half", .int (1 - (b.half : Int))), (sK "last", .int 0), (sK "page", v2)]) := h9
      walk_at "y"
      refine x_setD h9 (by simp) rfl fun H10 g10 h10 => ?_
      replace h10 : H10 od = some (.dK [(sK "life", .int (b.life : Int)), (sK "generation", .int ((b.gen : Int) + 1)), (sK "half", .int (1 - (b.half : Int))), (sK "last", .int 0), (sK "page", v2)]) := h10
      rw [show (1 - (b.half : Int)) = ((1 - b.half : Nat) : Int) from by omega, show ((b.gen : Int) + 1) = ((b.gen + 1 : Nat) : Int) from by omega] at h10
      have G710 : Go [od] H7 H10 := (g8.trans g9).trans g10
      have w10 : Wt K H10 v2 (pageD (over b.page p)) := (w6.ex x7).go G710 (lay_page opo).to
      have nod6 : od ∉ [dd, ls, lf', lp'] := by
        obtain ⟨_, k1, _⟩ := h6.f
        obtain ⟨_, k2, _⟩ := h6.p
        simp only [List.mem_cons, List.not_mem_nil, or_false, not_or]
        refine ⟨nod, nls, fun z => ?_, fun z => ?_⟩
        · rw [z, k1] at h56; cases h56
        · rw [z, k2] at h56; cases h56
      simp only [List.mem_cons, List.not_mem_nil, or_false, not_or] at nod6
      have hd10 : LDisk K dd ls lf' lp' S S [] H10 := (h6.go ok6 x7.go (L := []) (by simp)).go ok6 G710 (by simp [Ne.symm nod6.1, Ne.symm nod6.2.1, Ne.symm nod6.2.2.1, Ne.symm nod6.2.2.2])
      walk_at "y"
      refine x_kdgetK h10 rfl ?_
      walk_at "y"
      refine x_muli (cmulR _ (by omega)) ?_
      walk_at "y"
      refine x_kdgetK h10 rfl ?_
      walk_at "y"
      refine x_kdgetK h10 rfl ?_
      walk_at "y"
      refine x_kdgetK h10 rfl ?_
      walk_at "y"
      refine x_kdgetK h10 rfl ?_
      walk_at "y"
      refine x_mkt (.cons (.int _) (.cons (.int _) (.cons (.int _) (.cons w10 .nil)))) fun u11 H11 x11 w11 => ?_
      walk_at "y"
      rw [show (((1 - b.half : Nat) : Int) * (M : Int) + 0) = (((1 - b.half) * M + 0 : Nat) : Int) from by push_cast; rfl]
      refine ⟨dd, ls, lf', lp', (1 - b.half) * M + 0, u11, ⟨b.gen + 1, b.life, 0, over b.page p⟩, S, S, [], M, rfl, hd10.go ok6 x11.go (L := []) (by simp), ok6, place_lt (by omega) (by omega), w11, opo, fun H12 g12 h12 => ?_⟩
      walk_at "y"
      have how : OwnAt K od ⟨b.life, b.gen + 1, 1 - b.half, 0, over b.page p⟩ H12 := ⟨v2, g12.keep od _ (by simp [nls, nod6.2.2.2]) (x11 _ _ h10), (w10.ex x11).go g12 (lay_page opo).to⟩
      have GG : Go (lp' :: [dd, od, ls, lp]) H H12 := (G5.mono (by simp)).trans ((g6.mono (by simp)).trans (x7.go.trans ((G710.mono (by simp)).trans (x11.go.trans (g12.mono (by simp))))))
      exact q lf' lp' H12 (Go.fresh (Ex.refl _) (frO _ m6) GG) (.inr (frO _ n6)) (.inr (frO _ m6)) how h12
end
end Y
/-! part C8 -/
/-! Whether disk and book stand as told; odd pages. -/
namespace Y
open PySem L2
local macro_rules | `(tactic| walk_at "y1") => `(tactic| (first
  | (with_reducible refine x_seq ?_) | (with_reducible refine x_asg ?_) | (with_reducible refine x_name ?_) | (with_reducible refine x_drop ?_) | (with_reducible refine x_ret ?_) | (with_reducible refine x_retN ?_)
  | (with_reducible refine x_next ?_) | (with_reducible refine x_brk ?_) | (with_reducible refine x_ifS ?_)
  | (with_reducible refine x_c ?_) | (with_reducible refine x_op ?_) | (with_reducible refine x_un ?_) | (with_reducible refine x_cb ?_) | (with_reducible refine x_cons ?_) | (with_reducible refine x_nil ?_)
  | (with_reducible refine x_call ?_) | (with_reducible refine x_tup ?_) | (with_reducible refine x_lst ?_) | (with_reducible refine x_sl ?_) | (with_reducible refine x_nopart ?_) | (with_reducible refine x_part ?_)
  | (with_reducible refine x_andV ?_) | (with_reducible refine x_orV ?_) | (with_reducible refine x_notV ?_) | (with_reducible refine x_if ?_) | (with_reducible refine x_test ?_) | (with_reducible refine x_tb ?_)
  | (with_reducible refine x_and ?_) | (with_reducible refine x_or ?_) | (with_reducible refine x_not ?_) | (with_reducible refine x_chain ?_) | (with_reducible refine x_exbl ?_) | (with_reducible refine x_exint ?_)
  | (with_reducible refine x_fld ?_) | (with_reducible refine x_sfld ?_) | (with_reducible refine x_par ?_) | (with_reducible refine x_par3 ?_) | (with_reducible refine x_dget ?_) | (with_reducible refine x_dput ?_)
  | (with_reducible refine x_bm ?_) | (with_reducible refine x_bm0 ?_) | (with_reducible refine x_pair ?_) | (with_reducible refine x_tri ?_) | (with_reducible refine x_int ?_) | (with_reducible refine x_intb ?_) | (with_reducible refine x_abs ?_) | (with_reducible refine x_isN ?_) | (with_reducible refine x_notN ?_) | (with_reducible refine x_meth ?_) | (with_reducible refine x_make ?_)
  | (with_reducible refine x_ite1 ?_) | (with_reducible refine x_ite0 ?_)
  | (with_reducible refine x_addi ?_) | (with_reducible refine x_neg ?_) | (with_reducible refine x_i0 ?_) | (with_reducible refine x_eqi ?_) | (with_reducible refine x_eqs ?_) | (with_reducible refine x_eqb ?_) | (with_reducible refine x_nei ?_) | (with_reducible refine x_lti ?_)
  | (with_reducible refine x_forL ?_) | (with_reducible refine x_forT ?_) | (with_reducible refine x_forR ?_) | (with_reducible refine x_forR2 ?_) | (with_reducible refine x_lcL ?_) | (with_reducible refine x_lcT ?_) | (with_reducible refine x_lcR ?_)
  | (with_reducible refine x_yes ?_) | (with_reducible refine x_pcons ?_) | (with_reducible refine x_pnil ?_) | (with_reducible refine x_gcons ?_) | (with_reducible refine x_gnil ?_) | (with_reducible refine x_gattr ?_) | (with_reducible refine x_raise ?_) | (with_reducible refine x_gsub ?_) | (with_reducible refine x_fldaug ?_) | (with_reducible refine x_radd ?_) | (with_reducible refine x_ipi ?_) | ((with_reducible refine x_aug (x := ?vv) ?hh ?qq); (case hh => exact rfl))
  | ((with_reducible refine x_iteA ?hc ?q); (case hc => exact rfl)) | ((with_reducible refine x_iteB ?hc ?q); (case hc => exact rfl))
  | ((with_reducible refine x_var (v := ?vv) ?hh ?qq); (case hh => exact rfl))
  | ((with_reducible refine r_isInt (d := ?dd) ?hh ?qq); (case hh => assumption)) | ((with_reducible refine r_isBool (d := ?dd) ?hh ?qq); (case hh => assumption)) | ((with_reducible refine r_isTup (d := ?dd) ?hh ?qq); (case hh => assumption))
  | ((with_reducible refine r_isStr (d := ?dd) ?hh ?qq); (case hh => assumption)) | ((with_reducible refine r_isLst (d := ?dd) ?hh ?qq); (case hh => assumption))))
local macro_rules | `(tactic| walk_at "y") => `(tactic| (repeat (walk_at "y1")))
section
variable {P : Program} {w : World} {K : PySem.W.Frag} {mg : Str → Option Value} {base : Heap}
/-! ### odd pages -/
/-- three numbers, or what begins as a list of slots does -/
def tri : List PyData → Bool
  | [.int _, .int _, .int _] => true
  | .tuple [] :: _ => true
  | .tuple [_, _, _, _] :: _ => true
  | _ => false
def noTri : PyData → Bool
  | .list xs => !tri xs && noTriL xs
  | .tuple xs => noTriL xs
  | _ => true
where
  noTriL : List PyData → Bool
  | [] => true
  | d :: ds => noTri d && noTriL ds
/-- what calls may change without a datum's knowing -/
def Aside (K : PySem.W.Frag) (H : Hp) (s : Addr) : Prop := BoxAt s H ∨ (∃ ps, H s = some (.tbl ps)) ∨ ∃ (ys : List V) (S : List Slot), H s = some (.lst ys) ∧ WtL K H ys (S.map slD) ∧ S ≠ []
theorem slot_head {K : PySem.W.Frag} {H : Hp} {xs : List V} {ds : List PyData} {S : List Slot} (r : WtL K H xs ds) (w : WtL K H xs (S.map slD)) (n : S ≠ []) : tri ds = true := by
  cases S with
  | nil => exact absurd rfl n
  | cons s S =>
    cases w with
    | cons w1 _ =>
      cases r with
      | cons r1 _ =>
        cases s with
        | none =>
          cases w1 with
          | tup h1 k1 =>
            cases k1
            cases r1 with
            | tup h2 k2 => rw [h1] at h2; cases h2; cases k2; rfl
            | lst h2 _ => rw [h1] at h2; cases h2
            | obj h2 _ => rw [h1] at h2; cases h2
        | some e =>
          cases w1 with
          | tup h1 k1 =>
            cases k1 with | cons _ k1 => cases k1 with | cons _ k1 => cases k1 with | cons _ k1 => cases k1 with | cons _ k1 =>
            cases k1
            cases r1 with
            | tup h2 k2 =>
              rw [h1] at h2
              cases h2
              cases k2 with | cons _ k2 => cases k2 with | cons _ k2 => cases k2 with | cons _ k2 => cases k2 with | cons _ k2 => cases k2; rfl
            | lst h2 _ => rw [h1] at h2; cases h2
            | obj h2 _ => rw [h1] at h2; cases h2
mutual
theorem Wt.aside {S : List Addr} {H H' : Hp} (g : Go S H H') (hS : ∀ s ∈ S, Aside K H s) : ∀ {v : V} {d : PyData}, noTri d = true → Wt K H v d → Wt K H' v d
  | _, _, _, .non => .non
  | _, _, _, .bl b => .bl b
  | _, _, _, .int i => .int i
  | _, _, _, .str x => .str x
  | _, .tuple ds, t, .tup h r => .tup (g.tup _ _ h) (WtL.aside g hS t r)
  | _, .list ds, t, @Wt.lst _ _ a xs _ h r => by
    have t : (!tri ds && noTri.noTriL ds) = true := t
    rw [Bool.and_eq_true] at t
    refine .lst (g.keep _ _ (fun z => ?_) h) (WtL.aside g hS t.2 r)
    rcases hS a z with ⟨i, j, k, e⟩ | ⟨ps, e⟩ | ⟨ys, Sl, e, w, n⟩
    · rw [h] at e
      cases e
      cases r with
      | cons r1 r => cases r with
        | cons r2 r => cases r with
          | cons r3 r => cases r; cases r1; cases r2; cases r3; simp [tri] at t
    · rw [h] at e; cases e
    · rw [h] at e
      cases e
      rw [slot_head r w n] at t
      simp at t
  | _, .dict _, t, @Wt.obj _ _ a C dx fs h c => .obj (g.keep _ _ (fun z => by
    rcases hS a z with ⟨i, j, k, e⟩ | ⟨ps, e⟩ | ⟨ys, Sl, e, _⟩ <;> rw [h] at e <;> cases e) h) c
theorem WtL.aside {S : List Addr} {H H' : Hp} (g : Go S H H') (hS : ∀ s ∈ S, Aside K H s) : ∀ {vs : List V} {ds : List PyData}, noTri.noTriL ds = true → WtL K H vs ds → WtL K H' vs ds
  | _, _, _, .nil => .nil
  | _, d :: ds, t, .cons h r => by
    have t : (noTri d && noTri.noTriL ds) = true := t
    rw [Bool.and_eq_true] at t
    exact .cons (Wt.aside g hS t.1 h) (WtL.aside g hS t.2 r)
end
mutual
theorem noTri_of : ∀ {d : PyData}, tupOnly d = true → noTri d = true
  | .tuple ds, h => noTriL_of (ds := ds) h
  | .none, _ => rfl
  | .bool _, _ => rfl
  | .int _, _ => rfl
  | .str _, _ => rfl
  | .list _, h => by cases h
  | .dict _, h => by cases h
theorem noTriL_of : ∀ {ds : List PyData}, tupOnlyL ds = true → noTri.noTriL ds = true
  | [], _ => rfl
  | d :: ds, h => by
    have h : (tupOnly d && tupOnlyL ds) = true := h
    rw [Bool.and_eq_true] at h
    show (noTri d && noTri.noTriL ds) = true
    rw [noTri_of h.1, noTriL_of h.2]
    rfl
end
/-! ### expressions that make data -/
section
variable {σ : L2.St} {H : Hp}
def EvD (K : PySem.W.Frag) (σ : L2.St) (H0 : Hp) (te : TE) (d : PyData) : Prop := ∀ H1, Ex H0 H1 → ∀ Q : VK, (∀ v H2, Ex H1 H2 → Wt K H2 v d → Q v H2) → te σ H1 Q
def EvA (K : PySem.W.Frag) (σ : L2.St) (H0 : Hp) (ta : TA) (ds : List PyData) : Prop := ∀ H1, Ex H0 H1 → ∀ Q : List V → Hp → Prop, (∀ vs H2, Ex H1 H2 → WtL K H2 vs ds → Q vs H2) → ta σ H1 Q
theorem ev_var {i : Nat} {v : V} {d : PyData} (h : σ[i]? = some (some v)) (w : Wt K H v d) : EvD K σ H (tVar i) d := fun H1 e Q q => x_var h (q v H1 (Ex.refl _) (w.ex e))
theorem ev_none : EvD K σ H (tC .non) .none := fun H1 e Q q => q _ H1 (Ex.refl _) .non
theorem ev_int {i : Int} : EvD K σ H (tC (.int i)) (.int i) := fun H1 e Q q => q _ H1 (Ex.refl _) (.int i)
theorem ev_bl {i : Bool} : EvD K σ H (tC (.bl i)) (.bool i) := fun H1 e Q q => q _ H1 (Ex.refl _) (.bl i)
theorem ev_str {i : Str} : EvD K σ H (tC (.str i)) (.str i) := fun H1 e Q q => q _ H1 (Ex.refl _) (.str i)
theorem ev_neg {te : TE} {i : Int} (h : EvD K σ H te (.int i)) : EvD K σ H (tUn (rU fun i => .int (-i)) te) (.int (-i)) := fun H1 e Q q => x_un (h H1 e _ fun v H2 e2 w => by
  cases w
  exact x_neg (q _ H2 e2 (.int _)))
theorem ev_nil : EvA K σ H tNil [] := fun H1 e Q q => q [] H1 (Ex.refl _) .nil
theorem ev_cons {te : TE} {ta : TA} {d : PyData} {ds : List PyData} (h : EvD K σ H te d) (h2 : EvA K σ H ta ds) : EvA K σ H (tCons te ta) (d :: ds) := fun H1 e Q q => x_cons (h H1 e _ fun v H2 e2 w => h2 H2 (e.trans e2) _ fun vs H3 e3 w3 => q _ H3 (e2.trans e3) (.cons (w.ex e3) w3))
theorem ev_tup {ta : TA} {ds : List PyData} (h : EvA K σ H ta ds) (hl : ds.length ≤ 100000 := by first | decide | simp) : EvD K σ H (tTup ta) (.tuple ds) := fun H1 e Q q => x_tup (h H1 e _ fun vs H2 e2 w => x_mkt w (fun v H3 e3 w3 => q v H3 (e2.trans e3) w3) hl)
theorem ev_lst {ta : TA} {ds : List PyData} (h : EvA K σ H ta ds) (hl : ds.length ≤ 100000 := by first | decide | simp) : EvD K σ H (tLst ta) (.list ds) := fun H1 e Q q => x_lst (h H1 e _ fun vs H2 e2 w => x_mkl (fun p H3 e3 n3 h3 => q _ H3 (e2.trans e3) (.lst h3 (w.ex e3))) (by rw [w.len]; exact hl))
theorem ev_ix {te : TE} {ds : List PyData} {d : PyData} (n : Nat) {i : Int} (hi : i = (n : Int)) (h : EvD K σ H te (.tuple ds)) (hd : ds[n]? = some d) : EvD K σ H (tOp (rIxU K) te (tC (.int i))) d := fun H1 e Q q => x_op (h H1 e _ fun v H2 e2 w => x_c (x_ixd w hi hd fun u wu => q u H2 e2 wu))
theorem ev_to {te : TE} {ds : List PyData} (n : Nat) {i : Int} (hi : i = (n : Int)) (h : EvD K σ H te (.tuple ds)) : EvD K σ H (tSl (rSlU K) te tNoPart (tPart (tC (.int i)))) (.tuple (ds.take n)) := fun H1 e Q q => x_sl (h H1 e _ fun v H2 e2 w => x_nopart (x_part (x_c ⟨i, rfl, x_slt w fun u H3 e3 w3 => q u H3 (e2.trans e3) (by rw [hi, cut_to] at w3; exact w3)⟩)))
theorem ev_addt {ta tb : TE} {ds es : List PyData} (h : EvD K σ H ta (.tuple ds)) (h2 : EvD K σ H tb (.tuple es)) (hl : ds.length + es.length ≤ 100000) : EvD K σ H (tOp (rAddU K) ta tb) (.tuple (ds ++ es)) := fun H1 e Q q => x_op (h H1 e _ fun v H2 e2 w => h2 H2 (e.trans e2) _ fun u H3 e3 w3 => x_addt (w.ex e3) w3 hl fun z H4 e4 w4 => q z H4 (e2.trans (e3.trans e4)) w4)
theorem ev_addl {ta tb : TE} {ds es : List PyData} (h : EvD K σ H ta (.list ds)) (h2 : EvD K σ H tb (.list es)) (hl : ds.length + es.length ≤ 100000) : EvD K σ H (tOp (rAddU K) ta tb) (.list (ds ++ es)) := fun H1 e Q q => x_op (h H1 e _ fun v H2 e2 w => h2 H2 (e.trans e2) _ fun u H3 e3 w3 => by
  have w := w.ex e3
  cases w with
  | lst ea wa =>
  cases w3 with
  | lst eb wb => exact x_addl ea eb (by rw [wa.len, wb.len]; exact hl) fun p H4 e4 n4 h4 => q _ H4 (e2.trans (e3.trans e4)) (.lst h4 ((wa.ex e4).append (wb.ex e4))))
theorem ev_list {te : TE} {ds : List PyData} (h : EvD K σ H te (.tuple ds)) : EvD K σ H (tCB (rList K) (tCons te tNil)) (.list ds) := fun H1 e Q q => x_cb (x_cons (h H1 e _ fun v H2 e2 w => x_nil (by
  cases w with
  | tup ea wa => exact x_lstt ea fun p H3 e3 n3 h3 => q _ H3 (e2.trans e3) (.lst h3 (wa.ex e3)))))
theorem ev_if0 {tt : TT} {ta tb : TE} {d : PyData} (c : Bool) (h : ∀ H1, Ex H H1 → ∀ Q : Bool → Hp → Prop, (∀ H2, Ex H1 H2 → Q c H2) → tt σ H1 Q) (h1 : c = true → EvD K σ H ta d) (h2 : c = false → EvD K σ H tb d) : EvD K σ H (tIf tt ta tb) d := fun H1 e Q q => x_if (h H1 e _ fun H2 e2 => by
  cases c with
  | true => exact x_ite1 (h1 rfl H2 (e.trans e2) _ fun v H3 e3 w => q v H3 (e2.trans e3) w)
  | false => exact x_ite0 (h2 rfl H2 (e.trans e2) _ fun v H3 e3 w => q v H3 (e2.trans e3) w))
theorem x_asgEv {te : TE} {i : Nat} {D : Ends} {d : PyData} (h : EvD K σ H te d) (q : ∀ v H', Ex H H' → Wt K H' v d → D.nx (σ.set i (some v)) H') : tAsg te (gName i) D σ H := x_asg (h H (Ex.refl _) _ fun v H2 e2 w => x_name (q v H2 e2 w))
theorem ev_seq {t u : TS} {D : Ends} (q : t { D with nx := u D } σ H) : tSeq t u D σ H := q
end
/-- an odd page -/
structure Odd (d : PyData) : Prop where
  no : isPage d = false
  sd : PageSide d
  tr : noTri d = true
theorem pairSide_mk {k x : PyData} (h : k.canLay0 = true) (n : nodes x ≤ 1000) : PairSide (.tuple [k, x]) := ⟨fun k' x' e => by
  simp only [PyData.tuple.injEq, List.cons.injEq, and_true] at e
  obtain ⟨rfl, rfl⟩ := e
  exact ⟨h, n⟩⟩
theorem pairSide_len {ds : List PyData} (h : ds.length ≠ 2) : PairSide (.tuple ds) := ⟨fun k' x' e => by
  cases e
  simp at h⟩
theorem pairSide_not {d : PyData} (h : isTup d = false) : PairSide d := ⟨fun k' x' e => by subst e; cases h⟩
theorem pageSide_mk {ds : List PyData} (h : ∀ e ∈ ds, PairSide e) : PageSide (.tuple ds) := fun es e x hx => by cases e; exact h x hx
theorem pageSide_not {d : PyData} (h : isTup d = false) : PageSide d := fun es e => by subst e; cases h
theorem odd_not {d : PyData} (h : isTup d = false) (t : noTri d = true) : Odd d := ⟨isPage_not h, pageSide_not h, t⟩
theorem odd_one {e : PyData} (h : isPageL none [e] = false) (s : PairSide e) (t : noTri e = true) : Odd (.tuple [e]) := ⟨h, pageSide_mk fun x hx => by rw [List.mem_singleton.mp hx]; exact s, by
  show (noTri e && true) = true
  rw [t]
  rfl⟩
theorem odd_two {e e' : PyData} (h : isPageL none [e, e'] = false) (s : PairSide e) (s' : PairSide e') (t : noTri e = true) (t' : noTri e' = true) : Odd (.tuple [e, e']) := ⟨h, pageSide_mk fun x hx => by
  simp only [List.mem_cons, List.not_mem_nil, or_false] at hx
  rcases hx with rfl | rfl
  · exact s
  · exact s', by
  show (noTri e && (noTri e' && true)) = true
  rw [t, t']
  rfl⟩
theorem one_key {k x : PyData} (h : isKey k = false) : isPageL none [.tuple [k, x]] = false := by
  rw [pageL_cons, h]
  rfl
theorem one_plain {k x : PyData} (h : isPlain x = false) : isPageL none [.tuple [k, x]] = false := by
  rw [pageL_cons, h, Bool.and_false]
  rfl
theorem key_more {s : Str} {r : List PyData} {x : PyData} (h : isNum x = false) : isKey (.tuple (.str s :: r ++ [x])) = false := by
  show (decide ((r ++ [x]).length ≤ 2) && (r ++ [x]).all isNum) = false
  rw [List.all_append]
  show (_ && (_ && (isNum x && true))) = false
  rw [h, Bool.false_and, Bool.and_false, Bool.and_false]
theorem lay_app {a b : List PyData} (h : ∀ x ∈ a, x.canLay0 = true) (h' : ∀ x ∈ b, x.canLay0 = true) : (PyData.tuple (a ++ b)).canLay0 = true := layAll fun x hx => (List.mem_append.mp hx).elim (h x) (h' x)
theorem tri_app {a b : List PyData} (h : noTri.noTriL a = true) (h' : noTri.noTriL b = true) : noTri.noTriL (a ++ b) = true := by
  induction a with
  | nil => exact h'
  | cons x a ih =>
    have h : (noTri x && noTri.noTriL a) = true := h
    rw [Bool.and_eq_true] at h
    show (noTri x && noTri.noTriL (a ++ b)) = true
    rw [h.1, ih h.2]
    rfl
theorem tri_pair {a b : PyData} (h : noTri a = true) (h' : noTri b = true) : noTri (.tuple [a, b]) = true := by
  show (noTri a && (noTri b && true)) = true
  rw [h, h']
  rfl
def oddA (p : Page) (kx : Str) (kr : List PyData) (d : PyData) : List PyData := [.none, .int 5, .str "map", .list (p.map pairD ++ [.tuple [.tuple (.str kx :: kr), d]]), .tuple [.tuple [.tuple (.str kx :: kr), d], .tuple [.tuple (.str kx :: kr), d]], .tuple [.tuple (.str kx :: kr), d], .tuple [.tuple [.tuple (.str kx :: kr)]], .tuple [.tuple [.tuple (.str kx :: kr), d, .int 0]], .tuple [.tuple [.str kx, d]]]
def oddB (p : Page) (kx : Str) (kr : List PyData) (d : PyData) : List PyData := [.tuple [.tuple [.tuple (.str kx :: kr ++ [.int (-1)]), d]], .tuple [.tuple [.tuple (.str kx :: kr ++ [.bool true]), d]], .tuple [.tuple [.tuple ((.str kx :: kr).take 1 ++ [.int 1, .int 2, .int 3]), d]], .tuple [.tuple [.list (.str kx :: kr), d]]]
def oddC (p : Page) (kx : Str) (kr : List PyData) (d : PyData) : List PyData := [.tuple [.tuple [.tuple [.int 0], d]], .tuple [.tuple [.tuple [], d]], .tuple [.tuple [.tuple (.str kx :: kr), .list [.int 1]]], .tuple [.tuple [.tuple (.str kx :: kr), .tuple [.int 1, .list [.int 2]]]], .tuple [.tuple [.tuple (.str kx :: kr), .dict []]], .tuple [.tuple [.tuple (.str kx :: kr ++ [.str "a"]), d]]]
def oddE (p : Page) (kx : Str) (kr : List PyData) (d : PyData) : List PyData := [.tuple [.tuple [.tuple [.str "b", .int 2], .int 0], .tuple [.tuple [.str "b", .int 1], .int 0]], .tuple [.tuple [.tuple [.str "b", .int 1], .int 0], .tuple [.tuple [.str "a", .int 1], .int 0]], .tuple [.list [.tuple (.str kx :: kr), d]], .tuple [.tuple [.tuple (.str kx :: kr), d], .none], .tuple [.tuple [.none, .int 0]]]
theorem childs {ds : List PyData} (h : PyData.canLayAll0 ds = true) : ∀ x ∈ ds, x.canLay0 = true := by
  induction ds with
  | nil => intro x hx; cases hx
  | cons a l ih =>
    intro x hx
    have h : (a.canLay0 && PyData.canLayAll0 l) = true := h
    rw [Bool.and_eq_true] at h
    rcases List.mem_cons.mp hx with rfl | hx
    · exact h.1
    · exact ih h.2 x hx
theorem pairSide_val {d : PyData} (h : valOk d = true) : PairSide d := ⟨fun k x e => by
  subst e
  have v := val_of h
  refine ⟨childs (ds := [k, x]) v.ly k (by simp), ?_⟩
  have := v.nd
  have e : nodes (.tuple [k, x]) = nodes k + (nodes x + 0) + 1 := rfl
  omega⟩
theorem odds_ok {p : Page} {kx : Str} {kr : List PyData} {d : PyData} (hk1 : isKey (.tuple (.str kx :: kr)) = true) (ltk : PySem.W.dataLt (.tuple (.str kx :: kr)) (.tuple (.str kx :: kr)) = false) (hall : ∀ x ∈ (.str kx :: kr : List PyData), x.canLay0 = true)
    (htr : noTri (.tuple (.str kx :: kr)) = true) (hd : valOk d = true) (hp : PageOk p) : ∀ x ∈ ((oddA p kx kr d ++ oddB p kx kr d) ++ oddC p kx kr d) ++ oddE p kx kr d, Odd x := by
  intro x hx
  have hdt : noTri d = true := noTri_of (val_of hd).to
  have hdn : nodes d ≤ 1000 := Nat.le_trans (val_of hd).nd (by decide)
  have hkl : (PyData.tuple (.str kx :: kr)).canLay0 = true := layAll hall
  have htl : noTri.noTriL (.str kx :: kr) = true := htr
  have sok : (PyData.str kx).canLay0 = true := hall _ (by simp)
  have tp : noTri (.tuple [.tuple (.str kx :: kr), d]) = true := tri_pair htr hdt
  have one : ∀ (a : PyData), noTri a = true → noTri (.tuple [a, d]) = true := fun a h => tri_pair h hdt
  have sP : PairSide (.tuple [.tuple (.str kx :: kr), d]) := pairSide_mk hkl hdn
  have hkr : kr.all isNum = true := by
    have : (decide (kr.length ≤ 2) && kr.all isNum) = true := hk1
    rw [Bool.and_eq_true] at this
    exact this.2
  simp only [oddA, oddB, oddC, oddE, List.mem_append, List.mem_cons, List.not_mem_nil, or_false] at hx
  rcases hx with (((rfl | rfl | rfl | rfl | rfl | rfl | rfl | rfl | rfl) | rfl | rfl | rfl | rfl) | rfl | rfl | rfl | rfl | rfl | rfl) | rfl | rfl | rfl | rfl | rfl
  · exact odd_not rfl rfl
  · exact odd_not rfl rfl
  · exact odd_not rfl rfl
  · refine odd_not rfl ?_
    show (!tri (p.map pairD ++ [.tuple [.tuple (.str kx :: kr), d]]) && noTri.noTriL (p.map pairD ++ [.tuple [.tuple (.str kx :: kr), d]])) = true
    rw [tri_app (noTriL_of (lay_page hp).to) (by show (noTri (.tuple [.tuple (.str kx :: kr), d]) && true) = true; rw [tp]; rfl), Bool.and_true]
    match p with
    | [] => rfl
    | kv :: [] => rfl
    | kv :: kv2 :: r => rfl
  · refine odd_two ?_ sP sP tp tp
    rw [pageL_cons, pageL_cons]
    show (_ && _ && _ && (_ && _ && PySem.W.dataLt _ _ && _)) = false
    rw [ltk, Bool.and_false, Bool.false_and, Bool.and_false]
  · have sd : PairSide (.tuple (.str kx :: kr)) := ⟨fun k' x' e => by
      simp only [PyData.tuple.injEq, List.cons.injEq] at e
      obtain ⟨rfl, rfl⟩ := e
      refine ⟨sok, ?_⟩
      simp only [List.all_cons, Bool.and_eq_true] at hkr
      obtain ⟨i, rfl⟩ := num_shape hkr.1
      exact (by decide : 1 ≤ 1000)⟩
    refine odd_two ?_ sd (pairSide_val hd) htr hdt
    match kr with
    | [] => rfl
    | [r1] => rfl
    | _ :: _ :: _ => rfl
  · exact odd_one rfl (pairSide_len (by simp)) (by show (noTri (.tuple (.str kx :: kr)) && true) = true; rw [htr]; rfl)
  · exact odd_one rfl (pairSide_len (by simp)) (by show (noTri (.tuple (.str kx :: kr)) && (noTri d && true)) = true; rw [htr, hdt]; rfl)
  · exact odd_one (one_key rfl) (pairSide_mk sok hdn) (one _ rfl)
  · exact odd_one (one_key (key_more rfl)) (pairSide_mk (lay_app hall (by simp [PyData.canLay0])) hdn) (one _ (tri_app htl rfl))
  · exact odd_one (one_key (key_more rfl)) (pairSide_mk (lay_app hall (by simp [PyData.canLay0])) hdn) (one _ (tri_app htl rfl))
  · exact odd_one (one_key rfl) (pairSide_mk (lay_app (fun x hx => hall x (List.mem_of_mem_take hx)) (by simp [PyData.canLay0])) hdn) (one _ rfl)
  · refine odd_one (one_key rfl) (pairSide_mk (layAll hall) hdn) (one _ ?_)
    show (!tri (.str kx :: kr) && noTri.noTriL (.str kx :: kr)) = true
    rw [htl]
    rfl
  · exact odd_one (one_key rfl) (pairSide_mk rfl hdn) (one _ rfl)
  · exact odd_one (one_key rfl) (pairSide_mk rfl hdn) (one _ rfl)
  · exact odd_one (one_plain rfl) (pairSide_mk hkl (by decide)) (tri_pair htr rfl)
  · exact odd_one (one_plain rfl) (pairSide_mk hkl (by decide)) (tri_pair htr rfl)
  · exact odd_one (one_plain rfl) (pairSide_mk hkl (by decide)) (tri_pair htr rfl)
  · exact odd_one (one_key (key_more rfl)) (pairSide_mk (lay_app hall (by intro x hx; rw [List.mem_singleton.mp hx]; decide +kernel)) hdn) (one _ (tri_app htl rfl))
  · exact odd_two (by decide +kernel) (pairSide_mk (by decide +kernel) (by decide)) (pairSide_mk (by decide +kernel) (by decide)) rfl rfl
  · exact odd_two (by decide +kernel) (pairSide_mk (by decide +kernel) (by decide)) (pairSide_mk (by decide +kernel) (by decide)) rfl rfl
  · refine odd_one (pageL_notTup rfl) (pairSide_not rfl) ?_
    have hl3 : kr.length ≤ 2 := by
      have : (decide (kr.length ≤ 2) && kr.all isNum) = true := hk1
      simp only [Bool.and_eq_true, decide_eq_true_eq] at this
      exact this.1
    have tr0 : tri [.tuple (.str kx :: kr), d] = false := by
      match kr, hl3 with
      | [], _ => rfl
      | [_], _ => rfl
      | [_, _], _ => rfl
      | _ :: _ :: _ :: _, h => simp at h
    show (!tri [.tuple (.str kx :: kr), d] && (noTri (.tuple (.str kx :: kr)) && (noTri d && true))) = true
    rw [htr, hdt]
    rw [tr0]
    rfl
  · refine odd_two ?_ sP (pairSide_not rfl) tp rfl
    rw [pageL_cons, pageL_notTup (d := .none) rfl, Bool.and_false]
  · exact odd_one (one_key rfl) (pairSide_mk rfl (by decide)) rfl
def spNoPage (K : PySem.W.Frag) : Sp := fun vs H Q _ => ∃ (b : Addr), ∃ y z p, vs = [.ref b, y, z] ∧ BoxAt b H ∧ Wt K H y (pageD p) ∧ PageOk p ∧ Wt K H z (.dict []) ∧ ∀ x d H', Go [b] H H' → BoxAt b H' → Wt K H' x d → Odd d → Q x H'
abbrev s_no_page : Stmt := top 34
abbrev nms_no_page : List Str := ["box", "page", "thing", "pair", "key", "value", "odd"]
theorem sc_no_page : FnScope nms_no_page ["box", "page", "thing"] (defScope s_no_page) := ⟨rfl, rfl, rfl, by decide +kernel, rfl, by decide +kernel, by decide +kernel⟩
theorem ok_no_page {f : Addr} {fd : FuncData} (F : Fun K "_law_no_page" "_law_no_page" s_no_page f fd) (hm : mg "_law_no_page" = some (.ref f)) (b : Binds K fd ["box", "page", "thing"] []) (T : Bt mg) (c_pick : Cal P w K mg base 2 "_law_pick" spPick) : Cal P w K mg base 3 "_law_no_page" (spNoPage K) := by
  refine cal_of F hm b sc_no_page (fun vs H Q E h => ?_) (fun cdv A outer s H vs Q E hr h => ?_)
  · obtain ⟨b, y, z, p, rfl, _⟩ := h
    rfl
  · obtain ⟨b, y, z, p, rfl, hb, wy, hp, wz, q⟩ := h
    have hu64 := pass_hu64 hr
    refine ⟨_, (pss_cons (ps_set (i := 3) sc_no_page.nd rfl (by first | exact Or.inl rfl | exact Or.inr rfl) (pe_ifExp (pt_cmpR (oNeK K hu64) (pv 1) (pe_tup pa_nil) (nomark _)) (pe_ix (oIxK K) (pv 1) pe_int (fun _ _ => rfl)) (pe_tup (pa_cons (pe_tup (pa_cons pe_str pa_nil)) (pa_cons pe_int pa_nil)))))
    (pss_cons (ps_asg (pv 3) (pg_tup (n := 2) rfl (pgs_cons (pg_name (i := 4) sc_no_page.nd rfl (by first | exact Or.inl rfl | exact Or.inr rfl)) (pgs_cons (pg_name (i := 5) sc_no_page.nd rfl (by first | exact Or.inl rfl | exact Or.inr rfl)) pgs_nil))))
    (pss_cons (ps_set (i := 6) sc_no_page.nd rfl (by first | exact Or.inl rfl | exact Or.inr rfl) (pe_lst (pa_cons pe_non (pa_cons pe_int (pa_cons pe_str (pa_cons (pe_op (oAddK K) (pe_callTy cList (by rfl) T.list (by decide +kernel) (pa_cons (pv 1) pa_nil)) (pe_lst (pa_cons (pv 3) pa_nil))) (pa_cons (pe_tup (pa_cons (pv 3) (pa_cons (pv 3) pa_nil))) (pa_cons (pe_tup (pa_cons (pv 4) (pa_cons (pv 5) pa_nil))) (pa_cons (pe_tup (pa_cons (pe_tup (pa_cons (pv 4) pa_nil)) pa_nil)) (pa_cons (pe_tup (pa_cons (pe_tup (pa_cons (pv 4) (pa_cons (pv 5) (pa_cons pe_int pa_nil)))) pa_nil)) (pa_cons (pe_tup (pa_cons (pe_tup (pa_cons (pe_ix (oIxK K) (pv 4) pe_int (fun _ _ => rfl)) (pa_cons (pv 5) pa_nil))) pa_nil)) pa_nil)))))))))))
    (pss_cons (ps_set (i := 6) sc_no_page.nd rfl (by first | exact Or.inl rfl | exact Or.inr rfl) (pe_op (oAddK K) (pv 6) (pe_lst (pa_cons (pe_tup (pa_cons (pe_tup (pa_cons (pe_op (oAddK K) (pv 4) (pe_tup (pa_cons (pe_un un_neg pe_int) pa_nil))) (pa_cons (pv 5) pa_nil))) pa_nil)) (pa_cons (pe_tup (pa_cons (pe_tup (pa_cons (pe_op (oAddK K) (pv 4) (pe_tup (pa_cons pe_bl pa_nil))) (pa_cons (pv 5) pa_nil))) pa_nil)) (pa_cons (pe_tup (pa_cons (pe_tup (pa_cons (pe_op (oAddK K) (pe_slice (oSlK K) (pv 4) po_none (po_some pe_int)) (pe_tup (pa_cons pe_int (pa_cons pe_int (pa_cons pe_int pa_nil))))) (pa_cons (pv 5) pa_nil))) pa_nil)) (pa_cons (pe_tup (pa_cons (pe_tup (pa_cons (pe_callTy cList (by rfl) T.list (by decide +kernel) (pa_cons (pv 4) pa_nil)) (pa_cons (pv 5) pa_nil))) pa_nil)) pa_nil)))))))
    (pss_cons (ps_set (i := 6) sc_no_page.nd rfl (by first | exact Or.inl rfl | exact Or.inr rfl) (pe_op (oAddK K) (pv 6) (pe_lst (pa_cons (pe_tup (pa_cons (pe_tup (pa_cons (pe_tup (pa_cons pe_int pa_nil)) (pa_cons (pv 5) pa_nil))) pa_nil)) (pa_cons (pe_tup (pa_cons (pe_tup (pa_cons (pe_tup pa_nil) (pa_cons (pv 5) pa_nil))) pa_nil)) (pa_cons (pe_tup (pa_cons (pe_tup (pa_cons (pv 4) (pa_cons (pe_lst (pa_cons pe_int pa_nil)) pa_nil))) pa_nil)) (pa_cons (pe_tup (pa_cons (pe_tup (pa_cons (pv 4) (pa_cons (pe_tup (pa_cons pe_int (pa_cons (pe_lst (pa_cons pe_int pa_nil)) pa_nil))) pa_nil))) pa_nil)) (pa_cons (pe_tup (pa_cons (pe_tup (pa_cons (pv 4) (pa_cons (pv 2) pa_nil))) pa_nil)) (pa_cons (pe_tup (pa_cons (pe_tup (pa_cons (pe_op (oAddK K) (pv 4) (pe_tup (pa_cons pe_str pa_nil))) (pa_cons (pv 5) pa_nil))) pa_nil)) pa_nil)))))))))
    (pss_cons (ps_set (i := 6) sc_no_page.nd rfl (by first | exact Or.inl rfl | exact Or.inr rfl) (pe_op (oAddK K) (pv 6) (pe_lst (pa_cons (pe_tup (pa_cons (pe_tup (pa_cons (pe_tup (pa_cons pe_str (pa_cons pe_int pa_nil))) (pa_cons pe_int pa_nil))) (pa_cons (pe_tup (pa_cons (pe_tup (pa_cons pe_str (pa_cons pe_int pa_nil))) (pa_cons pe_int pa_nil))) pa_nil))) (pa_cons (pe_tup (pa_cons (pe_tup (pa_cons (pe_tup (pa_cons pe_str (pa_cons pe_int pa_nil))) (pa_cons pe_int pa_nil))) (pa_cons (pe_tup (pa_cons (pe_tup (pa_cons pe_str (pa_cons pe_int pa_nil))) (pa_cons pe_int pa_nil))) pa_nil))) (pa_cons (pe_tup (pa_cons (pe_lst (pa_cons (pv 4) (pa_cons (pv 5) pa_nil))) pa_nil)) (pa_cons (pe_tup (pa_cons (pv 3) (pa_cons pe_non pa_nil))) (pa_cons (pe_tup (pa_cons (pe_tup (pa_cons pe_non (pa_cons pe_int pa_nil))) pa_nil)) pa_nil))))))))
    (pss_one (ps_ret (pe_c c_pick hr (by decide) (by rfl) (pa_cons (pv 0) (pa_cons (pv 6) pa_nil))))))))))), ?_⟩
    try dsimp only [cxOf]
    -- the pair
    obtain ⟨k, d, hk, hd, hpair⟩ : ∃ (k : KeyT) (d : PyData), k ∈ uni ∧ valOk d = true ∧ ((p = [] ∧ k = [.inr "map"] ∧ d = .int 0) ∨ p.head? = some (k, d)) := by
      cases p with
      | nil => exact ⟨[.inr "map"], .int 0, key_mem (s := "map") (js := []) (by decide) (by simp) (by simp), rfl, .inl ⟨rfl, rfl, rfl⟩⟩
      | cons kv r => exact ⟨kv.1, kv.2, hp.ks kv (by simp), hp.vs kv (by simp), .inr rfl⟩
    refine ev_seq (x_asgEv (K := K) (d := pairD (k, d)) ?_ fun v3 H1 e1 w3 => ?_)
    · refine ev_if0 (!decide (p = [])) (fun H1 e1 Q q => ?_) (fun c => ?_) fun c => ?_
      · walk_at "y"
        refine x_mkt (K := K) .nil fun u2 H2 e2 w2 => ?_
        refine x_ned ((wy.ex e1).ex e2) w2 (lay_page hp).shaped rfl ?_
        rw [show PyData.eqv (pageD p) (.tuple []) = decide (p = []) from by cases p <;> rfl]
        walk_at "y"
        exact q H2 e2
      · refine ev_ix 0 rfl (ev_var rfl wy) ?_
        rcases hpair with ⟨rfl, _⟩ | h
        · simp at c
        · cases p with
          | nil => simp at h
          | cons kv r => cases h; rfl
      · have hp0 : p = [] := by simpa using c
        rcases hpair with ⟨_, rfl, rfl⟩ | h
        · exact ev_tup (ev_cons (ev_tup (ev_cons ev_str ev_nil)) (ev_cons ev_int ev_nil))
        · rw [hp0] at h; cases h
    have kin := key_is hk
    have klen := key_len hk
    obtain ⟨kx, kr, hkr, hkn⟩ := key_shape kin
    have kd : k.map kD = .str kx :: kr := by
      have : PyData.tuple (k.map kD) = .tuple (.str kx :: kr) := hkr
      exact PyData.tuple.inj this
    have krl : kr.length ≤ 2 := by
      have := congrArg List.length kd
      simp at this
      omega
    have kt : tkD k = .tuple (.str kx :: kr) := hkr
    have hkl : (PyData.tuple (.str kx :: kr)).canLay0 = true := kt ▸ key_lay hk
    have hall : ∀ x ∈ (.str kx :: kr : List PyData), x.canLay0 = true := by
      have : ∀ (l : List PyData), PyData.canLayAll0 l = true → ∀ x ∈ l, x.canLay0 = true := fun l => by
        induction l with
        | nil => intro _ x hx; cases hx
        | cons a l ih =>
          intro h x hx
          have h : (a.canLay0 && PyData.canLayAll0 l) = true := h
          rw [Bool.and_eq_true] at h
          rcases List.mem_cons.mp hx with rfl | hx
          · exact h.1
          · exact ih h.2 x hx
      exact this _ hkl
    have htr : noTri (.tuple (.str kx :: kr)) = true := kt ▸ noTri_of (tkD_to k)
    have htr' : noTri.noTriL (.str kx :: kr) = true := htr
    have hdt : noTri d = true := noTri_of (val_of hd).to
    have hdn : nodes d ≤ 1000 := Nat.le_trans (val_of hd).nd (by decide)
    unfold pairD at w3
    rw [kt] at w3
    -- key, value
    have w3' := w3
    cases w3' with
    | @tup a3 _ _ ea3 wa3 =>
    cases wa3 with
    | @cons u0 _ _ _ wk wa3 =>
    cases wa3 with
    | @cons u1 _ _ _ wd wa3 =>
    cases wa3
    have wy1 := wy.ex e1
    have wz1 := wz.ex e1
    with_reducible refine ev_seq ?_
    with_reducible refine x_asg ?_
    refine x_var rfl (x_gtup ea3 rfl (x_gcons (x_name (x_gcons (x_name (x_gnil ?_))))))
    have lpg := hp.len
    with_reducible refine ev_seq ?_
    with_reducible refine x_asgEv (K := K) (d := .list (oddA p kx kr d)) ?_ fun v6 H2 e2 w6 => ?_
    · refine ev_lst (hl := by simp [oddA]) (ev_cons ev_none (ev_cons ev_int (ev_cons ev_str (ev_cons (ev_addl (ev_list (ev_var rfl wy1)) (ev_lst (ev_cons (ev_var rfl w3) ev_nil)) (by simp; omega)) (ev_cons (ev_tup (ev_cons (ev_var rfl w3) (ev_cons (ev_var rfl w3) ev_nil))) (ev_cons (ev_tup (ev_cons (ev_var rfl wk) (ev_cons (ev_var rfl wd) ev_nil)))
        (ev_cons (ev_tup (ev_cons (ev_tup (ev_cons (ev_var rfl wk) ev_nil)) ev_nil)) (ev_cons (ev_tup (ev_cons (ev_tup (ev_cons (ev_var rfl wk) (ev_cons (ev_var rfl wd) (ev_cons ev_int ev_nil)))) ev_nil)) (ev_cons (ev_tup (ev_cons (ev_tup (ev_cons (ev_ix 0 rfl (ev_var rfl wk) rfl) (ev_cons (ev_var rfl wd) ev_nil))) ev_nil)) ev_nil)))))))))
    have wk2 := wk.ex e2
    have wd2 := wd.ex e2
    have w32 := w3.ex e2
    have wz2 := wz1.ex e2
    with_reducible refine ev_seq ?_
    with_reducible refine x_asgEv (K := K) (d := .list (oddA p kx kr d ++ oddB p kx kr d)) ?_ fun v7 H3 e3 w7 => ?_
    · refine ev_addl (ev_var rfl w6) (ev_lst ?_ (by simp [oddB])) (by simp [oddA, oddB])
      refine ev_cons (ev_tup (ev_cons (ev_tup (ev_cons (ev_addt (ev_var rfl wk2) (ev_tup (ev_cons (ev_neg ev_int) ev_nil)) (by simp; omega)) (ev_cons (ev_var rfl wd2) ev_nil))) ev_nil)) ?_
      refine ev_cons (ev_tup (ev_cons (ev_tup (ev_cons (ev_addt (ev_var rfl wk2) (ev_tup (ev_cons ev_bl ev_nil)) (by simp; omega)) (ev_cons (ev_var rfl wd2) ev_nil))) ev_nil)) ?_
      refine ev_cons (ev_tup (ev_cons (ev_tup (ev_cons (ev_addt (ev_to 1 rfl (ev_var rfl wk2)) (ev_tup (ev_cons ev_int (ev_cons ev_int (ev_cons ev_int ev_nil)))) (by simp)) (ev_cons (ev_var rfl wd2) ev_nil))) ev_nil)) ?_
      exact ev_cons (ev_tup (ev_cons (ev_tup (ev_cons (ev_list (ev_var rfl wk2)) (ev_cons (ev_var rfl wd2) ev_nil))) ev_nil)) ev_nil
    have wk3 := wk2.ex e3
    have wd3 := wd2.ex e3
    have w33 := w32.ex e3
    have wz3 := wz2.ex e3
    with_reducible refine ev_seq ?_
    with_reducible refine x_asgEv (K := K) (d := .list ((oddA p kx kr d ++ oddB p kx kr d) ++ oddC p kx kr d)) ?_ fun v8 H4 e4 w8 => ?_
    · refine ev_addl (ev_var rfl w7) (ev_lst ?_ (by simp [oddC])) (by simp [oddA, oddB, oddC])
      refine ev_cons (ev_tup (ev_cons (ev_tup (ev_cons (ev_tup (ev_cons ev_int ev_nil)) (ev_cons (ev_var rfl wd3) ev_nil))) ev_nil)) ?_
      refine ev_cons (ev_tup (ev_cons (ev_tup (ev_cons (ev_tup ev_nil) (ev_cons (ev_var rfl wd3) ev_nil))) ev_nil)) ?_
      refine ev_cons (ev_tup (ev_cons (ev_tup (ev_cons (ev_var rfl wk3) (ev_cons (ev_lst (ev_cons ev_int ev_nil)) ev_nil))) ev_nil)) ?_
      refine ev_cons (ev_tup (ev_cons (ev_tup (ev_cons (ev_var rfl wk3) (ev_cons (ev_tup (ev_cons ev_int (ev_cons (ev_lst (ev_cons ev_int ev_nil)) ev_nil))) ev_nil))) ev_nil)) ?_
      refine ev_cons (ev_tup (ev_cons (ev_tup (ev_cons (ev_var rfl wk3) (ev_cons (ev_var rfl wz3) ev_nil))) ev_nil)) ?_
      exact ev_cons (ev_tup (ev_cons (ev_tup (ev_cons (ev_addt (ev_var rfl wk3) (ev_tup (ev_cons ev_str ev_nil)) (by simp; omega)) (ev_cons (ev_var rfl wd3) ev_nil))) ev_nil)) ev_nil
    have wk4 := wk3.ex e4
    have wd4 := wd3.ex e4
    have w34 := w33.ex e4
    with_reducible refine ev_seq ?_
    with_reducible refine x_asgEv (K := K) (d := .list (((oddA p kx kr d ++ oddB p kx kr d) ++ oddC p kx kr d) ++ oddE p kx kr d)) ?_ fun v9 H5 e5 w9 => ?_
    · refine ev_addl (ev_var rfl w8) (ev_lst ?_ (by simp [oddE])) (by simp [oddA, oddB, oddC, oddE])
      refine ev_cons (ev_tup (ev_cons (ev_tup (ev_cons (ev_tup (ev_cons ev_str (ev_cons ev_int ev_nil))) (ev_cons ev_int ev_nil))) (ev_cons (ev_tup (ev_cons (ev_tup (ev_cons ev_str (ev_cons ev_int ev_nil))) (ev_cons ev_int ev_nil))) ev_nil))) ?_
      refine ev_cons (ev_tup (ev_cons (ev_tup (ev_cons (ev_tup (ev_cons ev_str (ev_cons ev_int ev_nil))) (ev_cons ev_int ev_nil))) (ev_cons (ev_tup (ev_cons (ev_tup (ev_cons ev_str (ev_cons ev_int ev_nil))) (ev_cons ev_int ev_nil))) ev_nil))) ?_
      refine ev_cons (ev_tup (ev_cons (ev_lst (ev_cons (ev_var rfl wk4) (ev_cons (ev_var rfl wd4) ev_nil))) ev_nil)) ?_
      refine ev_cons (ev_tup (ev_cons (ev_var rfl w34) (ev_cons ev_none ev_nil))) ?_
      exact ev_cons (ev_tup (ev_cons (ev_tup (ev_cons ev_none (ev_cons ev_int ev_nil))) ev_nil)) ev_nil
    have E5 := e1.trans (e2.trans (e3.trans (e4.trans e5)))
    have hb5 := hb.go E5.go (S := []) (by simp)
    have odds : ∀ x ∈ ((oddA p kx kr d ++ oddB p kx kr d) ++ oddC p kx kr d) ++ oddE p kx kr d, Odd x := odds_ok (kt ▸ kin) (kt ▸ keyLt_irrefl k) hall htr hd hp
    cases w9 with
    | @lst l9 xs9 _ ea9 wa9 =>
    have len9 : xs9.length = 24 := by rw [wa9.len]; rfl
    walk_at "y"
    have nbl : b ≠ l9 := fun z => by
      obtain ⟨i, j, k, e⟩ := hb5
      rw [z, ea9] at e
      cases e
      simp at len9
    refine ⟨b, l9, xs9, rfl, hb5, ea9, nbl, by omega, by omega, fun i x H6 hx g6 hb6 => ?_⟩
    obtain ⟨dx, hdx, wx⟩ := wa9.get hx
    have ho := odds dx (List.mem_of_getElem? hdx)
    exact q x dx H6 (E5.go.trans g6) hb6 (wx.aside g6 (fun s hs => by rw [List.mem_singleton.mp hs]; exact .inl hb5) ho.tr) ho
end
end Y
/-! part C9 -/
/-! What is heard of work that raises. -/
namespace Y
open PySem L2 LamX PySem.Spec PyProof.Rows
/-! ### heaps where tables may grow -/
mutual
theorem Wt.exN {K : PySem.W.Frag} {H H' : Hp} (e : ExtN H H') : ∀ {v : V} {d : PyData}, Wt K H v d → Wt K H' v d
  | _, _, .non => .non
  | _, _, .bl b => .bl b
  | _, _, .int i => .int i
  | _, _, .str x => .str x
  | _, _, .tup h r => .tup (e _ _ h (fun _ z => by cases z)) (WtL.exN e r)
  | _, _, .lst h r => .lst (e _ _ h (fun _ z => by cases z)) (WtL.exN e r)
  | _, _, .obj h c => .obj (e _ _ h (fun _ z => by cases z)) c
theorem WtL.exN {K : PySem.W.Frag} {H H' : Hp} (e : ExtN H H') : ∀ {vs : List V} {ds : List PyData}, WtL K H vs ds → WtL K H' vs ds
  | _, _, .nil => .nil
  | _, _, .cons h r => .cons (Wt.exN e h) (WtL.exN e r)
end
section
variable {K : PySem.W.Frag} {H H' : Hp}
theorem BoxAt.exN {b : Addr} (h : BoxAt b H) (e : ExtN H H') : BoxAt b H' := by
  obtain ⟨i, j, k, h⟩ := h
  exact ⟨i, j, k, e _ _ h (fun _ z => by cases z)⟩
theorem DskAt.exN {C a : Addr} {S F : List Slot} {U : List (Nat × Entry)} (h : DskAt K C a S F U H) (e : ExtN H H') : DskAt K C a S F U H' := by
  obtain ⟨dx, v1, v2, v3, h, w1, w2, w3⟩ := h
  exact ⟨dx, v1, v2, v3, e _ _ h (fun _ z => by cases z), w1.exN e, w2.exN e, w3.exN e⟩
theorem OwnAt.exN {a : Addr} {b : Bk} (h : OwnAt K a b H) (e : ExtN H H') : OwnAt K a b H' := by
  obtain ⟨v, h, w⟩ := h
  exact ⟨v, e _ _ h (fun _ z => by cases z), w.exN e⟩
theorem LDisk.exN {dd ls lf lp : Addr} {S F : List Slot} {U : List (Nat × Entry)} (h : LDisk K dd ls lf lp S F U H) (e : ExtN H H') : LDisk K dd ls lf lp S F U H' := by
  obtain ⟨d, ⟨x1, s1, t1⟩, ⟨x2, s2, t2⟩, ⟨x3, s3, t3⟩, n1, n2, n3⟩ := h
  exact ⟨e _ _ d (fun _ z => by cases z), ⟨x1, e _ _ s1 (fun _ z => by cases z), t1.exN e⟩, ⟨x2, e _ _ s2 (fun _ z => by cases z), t2.exN e⟩, ⟨x3, e _ _ s3 (fun _ z => by cases z), t3.exN e⟩, n1, n2, n3⟩
/-- all but what stands at S and the tables -/
structure GoT (S : List Addr) (H H' : Hp) : Prop where
  keep : ∀ a o, a ∉ S → H a = some o → (∀ ps, o ≠ .tbl ps) → H' a = some o
  tup : ∀ a xs, H a = some (.tup xs) → H' a = some (.tup xs)
theorem Go.goT {S : List Addr} (g : Go S H H') : GoT S H H' := ⟨fun a o n h _ => g.keep a o n h, g.tup⟩
theorem goT_N {S : List Addr} (g : ExtN H H') : GoT S H H' := ⟨fun a o n h t => g a o h t, fun a xs h => g a _ h (fun _ z => by cases z)⟩
theorem GoT.trans {S : List Addr} {H1 : Hp} (a : GoT S H H1) (b : GoT S H1 H') : GoT S H H' := ⟨fun x o n h t => b.keep x o n (a.keep x o n h t) t, fun x xs h => b.tup x xs (a.tup x xs h)⟩
/-- told as a growth of tables behind a change of S -/
theorem GoT.split {S : List Addr} (g : GoT S H H') : ∃ H1, Go S H H1 ∧ ExtN H1 H' := by
  refine ⟨fun a => match H a with
    | some (.tbl ps) => some (.tbl ps)
    | _ => H' a, ⟨fun a o n h => ?_, fun a xs h => ?_⟩, fun a o h t => ?_⟩
  · show (match H a with
      | some (.tbl ps) => some (HO.tbl ps)
      | _ => H' a) = _
    split
    · rename_i q; rw [q] at h; exact h
    · rename_i q
      exact g.keep a o n h (fun ps z => q ps (by rw [h, z]))
  · show (match H a with
      | some (.tbl ps) => some (HO.tbl ps)
      | _ => H' a) = _
    rw [h]
    exact g.tup a xs h
  · have h : (match H a with
      | some (.tbl ps) => some (HO.tbl ps)
      | _ => H' a) = some o := h
    split at h
    · cases h; exact absurd rfl (t _)
    · exact h
/-- tables told of heaps that change elsewhere -/
def Plainish (H : Hp) (s : Addr) : Prop := (∃ xs, H s = some (.lst xs)) ∨ (∃ C dx fs, H s = some (.ins C dx fs)) ∨ ∃ kvs, H s = some (.dK kvs)
theorem Tabs.go {T : List (Addr × Str)} {S : List Addr} (t : Tabs T H) (g : Go S H H') (hS : ∀ s ∈ S, Plainish H s) : Tabs T H' := fun p hp => by
  obtain ⟨ps, h1, h2, h3⟩ := t p hp
  have nP : p.1 ∉ S := fun z => by
    rcases hS _ z with ⟨_, e⟩ | ⟨_, _, _, e⟩ | ⟨_, e⟩ <;> rw [h1] at e <;> cases e
  refine ⟨ps, g.keep _ _ nP h1, h2, fun pos cv hc => ?_⟩
  obtain ⟨c, e1, e2⟩ := h3 pos cv hc
  refine ⟨c, e1, g.keep _ _ (fun z => ?_) e2⟩
  rcases hS _ z with ⟨_, e⟩ | ⟨_, _, _, e⟩ | ⟨_, e⟩ <;> rw [e2] at e <;> unfold CodeO at e <;> cases e
end
/-! ### a def whose code object is known -/
section
variable {P : Program} {w : World} {K : PySem.W.Frag} {mg : Str → Option Value} {base : Heap}
theorem cal_ofC {x : Str} {st : Stmt} {f : Addr} {fd : FuncData} {N ps : List Str} {k : Nat} {sp : Sp} (F : Fun K x x st f fd) (hm : mg x = some (.ref f)) (b : Binds K fd ps []) (S : FnScope N ps (defScope st)) (len : ∀ vs H Q E, sp vs H Q E → vs.length = ps.length)
    (hbody : ∀ (cdv : Value), fd.code = cdv → ∀ (A : Around) (outer : List Env) (s : Shared) (H : Hp) (vs : List V) (Q : VK) (E : XK), Room k (A.deeper (envOfC x (defScope st) s.heap.objs.size f cdv)) → sp vs H Q E →
      ∃ t, PSs (cxOf (L2.CX P w) P w K mg base N x (defScope st) f cdv A outer s H E) (defBody st) t ∧ t { nx := fun _ H' => Q .non H', rt := Q } (start N vs) H) : Cal P w K mg base (k + 1) x sp := by
  have kp := F.kp
  obtain ⟨oc, od, kV, doc, pm, an, cdv, ct, osl, rfl, lk, hcd⟩ := F.ex
  exact ⟨f, _, ps, fn_of lk hcd S len fun A outer s H vs Q E hr hsp => hbody cdv rfl A outer s H vs Q E hr hsp, hm, kp, b⟩
end
theorem pv_len (n : Nat) {X : Cx} {e : Expr} {i : Nat} (h : PE X e (tVar i)) (hn : X.N.length = n := by rfl) : PE X e (fun σ H Q => ∃ v, (σ.length = n → σ[i]? = some (some v)) ∧ Q v H) := ⟨fun pins s σ H Q I ⟨v, hv, q⟩ => h.run pins s σ H Q I ⟨v, hv (I.len.trans hn), q⟩⟩
/-! ### heard -/
abbrev s_heard : Stmt := top 44
abbrev nms_heard : List Str := ["work", "error"]
theorem sc_heard : FnScope nms_heard ["work"] (defScope s_heard) := ⟨rfl, rfl, rfl, by decide +kernel, rfl, by decide +kernel, by decide +kernel⟩
/-- what heard makes of work that raises C with the number n: (word, n) -/
def THeard (K : PySem.W.Frag) (C : Addr) (word : Str) (n : Int) : (XK → Hp → VK → Prop) → Hp → VK → Prop := fun tl H Q =>
  tl (fun cls d H' => cls = .ref C ∧ ∃ e, d = some e ∧ H' e = some (.xd [(("at" : Str), .int n)]) ∧ ∀ u H'', Ex H' H'' → Wt K H'' u (.tuple [.str word, .int n]) → Q u H'') H (fun v H1 => mkT [.str "told", v] H1 Q)
structure ExK (P : Program) (K : PySem.W.Frag) (mg : Str → Option Value) (ER : Ers P K mg) : Prop where
  eNN : PySem.W.exmOne K (.ref ER.cN) (.ref ER.cN) = some true
  eSN : PySem.W.exmOne K (.ref ER.cS) (.ref ER.cN) = some false
  eSS : PySem.W.exmOne K (.ref ER.cS) (.ref ER.cS) = some true
  eLN : PySem.W.exmOne K (.ref ER.cL) (.ref ER.cN) = some false
  eLS : PySem.W.exmOne K (.ref ER.cL) (.ref ER.cS) = some false
  eLL : PySem.W.exmOne K (.ref ER.cL) (.ref ER.cL) = some true
  ePN : PySem.W.exmOne K (.ref ER.cP) (.ref ER.cN) = some false
  ePS : PySem.W.exmOne K (.ref ER.cP) (.ref ER.cS) = some false
  ePL : PySem.W.exmOne K (.ref ER.cP) (.ref ER.cL) = some false
  ePP : PySem.W.exmOne K (.ref ER.cP) (.ref ER.cP) = some true
  eDN : PySem.W.exmOne K (.ref ER.cD) (.ref ER.cN) = some false
  eDS : PySem.W.exmOne K (.ref ER.cD) (.ref ER.cS) = some false
  eDL : PySem.W.exmOne K (.ref ER.cD) (.ref ER.cL) = some false
  eDP : PySem.W.exmOne K (.ref ER.cD) (.ref ER.cP) = some false
  eDD : PySem.W.exmOne K (.ref ER.cD) (.ref ER.cD) = some true
  me : ∃ c, mg "MapsError" = some (.ref c)
inductive HeardOk {P : Program} {K : PySem.W.Frag} {mg : Str → Option Value} {ER : Ers P K mg} : Addr → Str → Prop
  | number : HeardOk ER.cN "number"
  | slot : HeardOk ER.cS "slot"
  | lot : HeardOk ER.cL "lot"
  | page : HeardOk ER.cP "page"
  | disk : HeardOk ER.cD "disk"
theorem heard_gives {X : Cx} {q : Str} {g : Addr} {cdg : Value} (ER : Ers X.prog X.K X.mg) (EK : ExK X.prog X.K X.mg ER) (C : Addr) (word : Str) (n : Int) (hC : HeardOk (ER := ER) C word) :
    GivesTo X nms_heard "_law_heard" (defScope s_heard) g cdg (defBody s_heard) "work" q (THeard X.K C word n) := by
  intro f c' s H Q tl act hc h
  obtain ⟨cM, hM⟩ := EK.me
  refine ⟨_, pss_one (ps_try_list (X := (cxOf C8.CX0 X.prog X.w X.K X.mg X.base nms_heard "_law_heard" (defScope s_heard) g cdg X.A X.stack s H C8.E0).nox)
    (tb := fun W D σ H => ∃ Ech : XK, (∀ cls d σ' H', Ech cls d H' → W cls d σ' H') ∧ tRet (tTup (tCons (tC (.str "told")) (tCons (fun σZ HZ Q => σZ[0]? = some (some (.ref f)) ∧ HZ c' = some (CodeO c' q) ∧ tl Ech HZ Q) tNil))) D σ H)
    rfl rfl sc_heard.nd LamX.takes0 (fun W pn xe tk _ => ?_)
    (CsOk.named (i := 1) (c := .ref ER.cN) rfl rfl ⟨by rfl, by decide, .inl ER.InvalidNumber.gC⟩ (fun a oe cls d pn hz hf => pss_one (ps_ret (pe_tup (pa_cons pe_str (pa_cons (pe_byErr (X := (cxOf C8.CX0 X.prog X.w X.K X.mg X.base nms_heard "_law_heard" (defScope s_heard) g cdg X.A X.stack s H C8.E0).nox) ER.InvalidNumber hz hf (pv_len 2 (pv (X := Cx.suite ((cxOf C8.CX0 X.prog X.w X.K X.mg X.base nms_heard "_law_heard" (defScope s_heard) g cdg X.A X.stack s H C8.E0).nox) a ((a, oe) :: pn)) 1))) pa_nil)))))
      (CsOk.named (i := 1) (c := .ref ER.cS) rfl rfl ⟨by rfl, by decide, .inl ER.InvalidSlot.gC⟩ (fun a oe cls d pn hz hf => pss_one (ps_ret (pe_tup (pa_cons pe_str (pa_cons (pe_byErr (X := (cxOf C8.CX0 X.prog X.w X.K X.mg X.base nms_heard "_law_heard" (defScope s_heard) g cdg X.A X.stack s H C8.E0).nox) ER.InvalidSlot hz hf (pv_len 2 (pv (X := Cx.suite ((cxOf C8.CX0 X.prog X.w X.K X.mg X.base nms_heard "_law_heard" (defScope s_heard) g cdg X.A X.stack s H C8.E0).nox) a ((a, oe) :: pn)) 1))) pa_nil)))))
      (CsOk.named (i := 1) (c := .ref ER.cL) rfl rfl ⟨by rfl, by decide, .inl ER.InvalidLot.gC⟩ (fun a oe cls d pn hz hf => pss_one (ps_ret (pe_tup (pa_cons pe_str (pa_cons (pe_byErr (X := (cxOf C8.CX0 X.prog X.w X.K X.mg X.base nms_heard "_law_heard" (defScope s_heard) g cdg X.A X.stack s H C8.E0).nox) ER.InvalidLot hz hf (pv_len 2 (pv (X := Cx.suite ((cxOf C8.CX0 X.prog X.w X.K X.mg X.base nms_heard "_law_heard" (defScope s_heard) g cdg X.A X.stack s H C8.E0).nox) a ((a, oe) :: pn)) 1))) pa_nil)))))
      (CsOk.named (i := 1) (c := .ref ER.cP) rfl rfl ⟨by rfl, by decide, .inl ER.InvalidPage.gC⟩ (fun a oe cls d pn hz hf => pss_one (ps_ret (pe_tup (pa_cons pe_str (pa_cons (pe_byErr (X := (cxOf C8.CX0 X.prog X.w X.K X.mg X.base nms_heard "_law_heard" (defScope s_heard) g cdg X.A X.stack s H C8.E0).nox) ER.InvalidPage hz hf (pv_len 2 (pv (X := Cx.suite ((cxOf C8.CX0 X.prog X.w X.K X.mg X.base nms_heard "_law_heard" (defScope s_heard) g cdg X.A X.stack s H C8.E0).nox) a ((a, oe) :: pn)) 1))) pa_nil)))))
      (CsOk.named (i := 1) (c := .ref ER.cD) rfl rfl ⟨by rfl, by decide, .inl ER.InvalidDisk.gC⟩ (fun a oe cls d pn hz hf => pss_one (ps_ret (pe_tup (pa_cons pe_str (pa_cons (pe_byErr (X := (cxOf C8.CX0 X.prog X.w X.K X.mg X.base nms_heard "_law_heard" (defScope s_heard) g cdg X.A X.stack s H C8.E0).nox) ER.InvalidDisk hz hf (pv_len 2 (pv (X := Cx.suite ((cxOf C8.CX0 X.prog X.w X.K X.mg X.base nms_heard "_law_heard" (defScope s_heard) g cdg X.A X.stack s H C8.E0).nox) a ((a, oe) :: pn)) 1))) pa_nil)))))
      (CsOk.plain (c := .ref cM) ⟨by rfl, by decide, .inl hM⟩ (fun a oe cls d pn hz hf => pss_one (ps_ret (pe_tup (pa_cons pe_str (pa_cons pe_int pa_nil))))) .nil))))))), ?_⟩
  · refine ⟨fun pins s' σ H' D I h' => ?_⟩
    obtain ⟨Ech, hW, h1⟩ := h'
    exact (pss_one (ps_ret (pe_tup (pa_cons pe_str (pa_cons (act W pn xe Ech _ _ tk hW) pa_nil))))).run pins s' σ H' D I h1
  · refine ⟨fun cls d H' => cls = .ref C ∧ ∃ e, d = some e ∧ H' e = some (.xd [(("at" : Str), .int n)]) ∧ ∀ u H'', Ex H' H'' → Wt X.K H'' u (.tuple [.str word, .int n]) → Q u H'', fun cls d σ' H' hE => ?_, ?_⟩
    · obtain ⟨rfl, e, rfl, he, hq⟩ := hE
      have lk : ∀ a : Addr, (σ'.set 1 (some (V.ref a))).length = 2 → (σ'.set 1 (some (V.ref a)))[1]? = some (some (V.ref a)) := fun a hl => by
        rw [List.length_set] at hl
        exact List.getElem?_set_self (by omega)
      cases hC with
      | number =>
        refine ⟨true, EK.eNN, fun _ a ha => ?_, fun z => by cases z⟩
        refine x_ret (x_tup (x_cons (x_c (x_cons ?_))))
        refine ⟨.ref a, lk a, rfl, rfl, e, .int n, rfl, he, x_nil (x_mkt (K := X.K) (.cons (.str _) (.cons (.int _) .nil)) fun u H2 e2 w2 => ?_)⟩
        exact hq u H2 e2 w2
      | slot =>
        refine ⟨false, EK.eSN, (fun z => by cases z), fun _ => ⟨true, EK.eSS, fun _ a ha => ?_, fun z => by cases z⟩⟩
        refine x_ret (x_tup (x_cons (x_c (x_cons ?_))))
        refine ⟨.ref a, lk a, rfl, rfl, e, .int n, rfl, he, x_nil (x_mkt (K := X.K) (.cons (.str _) (.cons (.int _) .nil)) fun u H2 e2 w2 => ?_)⟩
        exact hq u H2 e2 w2
      | lot =>
        refine ⟨false, EK.eLN, (fun z => by cases z), fun _ => ⟨false, EK.eLS, (fun z => by cases z), fun _ => ⟨true, EK.eLL, fun _ a ha => ?_, fun z => by cases z⟩⟩⟩
        refine x_ret (x_tup (x_cons (x_c (x_cons ?_))))
        refine ⟨.ref a, lk a, rfl, rfl, e, .int n, rfl, he, x_nil (x_mkt (K := X.K) (.cons (.str _) (.cons (.int _) .nil)) fun u H2 e2 w2 => ?_)⟩
        exact hq u H2 e2 w2
      | page =>
        refine ⟨false, EK.ePN, (fun z => by cases z), fun _ => ⟨false, EK.ePS, (fun z => by cases z), fun _ => ⟨false, EK.ePL, (fun z => by cases z), fun _ => ⟨true, EK.ePP, fun _ a ha => ?_, fun z => by cases z⟩⟩⟩⟩
        refine x_ret (x_tup (x_cons (x_c (x_cons ?_))))
        refine ⟨.ref a, lk a, rfl, rfl, e, .int n, rfl, he, x_nil (x_mkt (K := X.K) (.cons (.str _) (.cons (.int _) .nil)) fun u H2 e2 w2 => ?_)⟩
        exact hq u H2 e2 w2
      | disk =>
        refine ⟨false, EK.eDN, (fun z => by cases z), fun _ => ⟨false, EK.eDS, (fun z => by cases z), fun _ => ⟨false, EK.eDL, (fun z => by cases z), fun _ => ⟨false, EK.eDP, (fun z => by cases z), fun _ => ⟨true, EK.eDD, fun _ a ha => ?_, fun z => by cases z⟩⟩⟩⟩⟩
        refine x_ret (x_tup (x_cons (x_c (x_cons ?_))))
        refine ⟨.ref a, lk a, rfl, rfl, e, .int n, rfl, he, x_nil (x_mkt (K := X.K) (.cons (.str _) (.cons (.int _) .nil)) fun u H2 e2 w2 => ?_)⟩
        exact hq u H2 e2 w2
    · refine x_ret (x_tup (x_cons (x_c (x_cons ?_))))
      exact ⟨rfl, hc, h⟩
section
variable {X : Cx}
/-- pe_lamcall with the tables T -/
theorem lamT {T : List (Addr × Str)} {TT : (XK → Hp → VK → Prop) → Hp → VK → Prop} {x a : Str} {g c P : Addr} {k : Nat} {pg : Arguments} {bg : List Stmt} {sg : Scope} {dV kV doc pm cdv ct oc : Value} {an od : Option Addr} {osl : Array (Option Value)} {Ng : List Str}
    {params : Arguments} {body : Expr} {scope : Scope} {t : XK → TE} {p lpos pos : Pos} (hg : Gl X x) (hm : X.mg x = some (.ref g)) (hk : PySem.W.keepIn X.K (.ref g) = true)
    (lk : X.K.lookup g = some ⟨oc, od, .func (PySem.W.fnOf x x pg bg sg dV kV doc pm an cdv ct), osl⟩) (hcg : PySem.W.codeIn X.K cdv x = true) (hb : L2.Binds X.K (PySem.W.fnOf x x pg bg sg dV kV doc pm an cdv ct) [a] []) (Sg : FnScope Ng [a] sg) (hNg : Ng[0]? = some a) (hva : Vis sg a)
    (hG : GivesTo X Ng x sg g cdv bg a (X.env.qual ++ "<lambda>") TT)
    (TB : TabB X.base X.mg c P) (hcode : X.env.code = .ref c) (hmT : (P, X.env.qual ++ "<lambda>") ∈ T) (hu : ∀ p ∈ T, p.1 = P → p.2 = X.env.qual ++ "<lambda>") (hr : Room (k + 2) X.A) (L : LamS X.env.scope scope) (hdef : defaultsOf params X.env = ([], []))
    (hbind : ∀ (q : Str) (cl : List (Str × Addr)) (pm cv ctv : Value), bindArgs (PySem.W.kla_fn "<lambda>" q params body scope cl pm cv ctv) ⟨[], []⟩ = pure [])
    (hbody : ∀ (A : Around) (outer : List Env) (s : Shared) (H : Hp) (E : XK) (f c' : Addr), Room k (A.deeper (lamEnv X scope s.heap.objs.size f c')) → PE (lamCx X A outer s H E scope f c') body (t E))
    (hdb : (x == ("__debug__" : Str)) = false := by decide) (hd : (a == ("__debug__" : Str)) = false := by decide) (hcd : (a == ("__classdict__" : Str)) = false := by decide) :
    PE X (.Call (.Name x p) [.Lambda params body scope lpos] [] pos) (tLam T TT t) :=
  pe_lamcall hg hm hk lk hcg hb Sg hNg hva hG TB hcode hmT hu hr L hdef hbind hbody hdb hd hcd
end
theorem x_lam {σ : L2.St} {H : Hp} {Q : VK} {T : List (Addr × Str)} {TT : (XK → Hp → VK → Prop) → Hp → VK → Prop} {t : XK → TE} (h : Tabs T H) (q : ∀ H1, ExtN H H1 → Tabs T H1 → TT (fun E H' Q' => t E σ H' Q') H1 Q) : tLam T TT t σ H Q := ⟨h, q⟩
theorem errs_heard {K : PySem.W.Frag} {C : Addr} {n : Int} {word : Str} {H : Hp} {Q : VK} (k : ∀ u H'', Ex H H'' → Wt K H'' u (.tuple [.str word, .int n]) → Q u H'') :
    Errs (fun cls d H' => cls = .ref C ∧ ∃ e, d = some e ∧ H' e = some (.xd [(("at" : Str), .int n)]) ∧ ∀ u H'', Ex H' H'' → Wt K H'' u (.tuple [.str word, .int n]) → Q u H'') C n H :=
  fun e H' ex he => ⟨rfl, e, rfl, he, fun u H'' ex2 wu => k u H'' (ex.trans ex2) wu⟩
theorem sm_word (word : Str) (n : Int) : Sm 10 (.tuple [.str word, .int n]) := (Sm.tup (n := 1) (by simp) (by decide) fun d hd => by
  simp only [List.mem_cons, List.not_mem_nil, or_false] at hd
  rcases hd with rfl | rfl
  · exact sm_str _
  · exact sm_int _).mono (by decide)
end Y
/-! part F0 -/
/-! Slots that an own journal has written. -/
namespace Y
open PySem LamX L2
local macro_rules | `(tactic| walk_at "y1") => `(tactic| (first
  | (with_reducible refine x_seq ?_) | (with_reducible refine x_asg ?_) | (with_reducible refine x_name ?_) | (with_reducible refine x_drop ?_) | (with_reducible refine x_ret ?_) | (with_reducible refine x_retN ?_)
  | (with_reducible refine x_next ?_) | (with_reducible refine x_brk ?_) | (with_reducible refine x_ifS ?_)
  | (with_reducible refine x_c ?_) | (with_reducible refine x_op ?_) | (with_reducible refine x_un ?_) | (with_reducible refine x_cb ?_) | (with_reducible refine x_cons ?_) | (with_reducible refine x_nil ?_)
  | (with_reducible refine x_call ?_) | (with_reducible refine x_tup ?_) | (with_reducible refine x_lst ?_) | (with_reducible refine x_sl ?_) | (with_reducible refine x_nopart ?_) | (with_reducible refine x_part ?_)
  | (with_reducible refine x_andV ?_) | (with_reducible refine x_orV ?_) | (with_reducible refine x_notV ?_) | (with_reducible refine x_if ?_) | (with_reducible refine x_test ?_) | (with_reducible refine x_tb ?_)
  | (with_reducible refine x_and ?_) | (with_reducible refine x_or ?_) | (with_reducible refine x_not ?_) | (with_reducible refine x_chain ?_) | (with_reducible refine x_exbl ?_) | (with_reducible refine x_exint ?_)
  | (with_reducible refine x_fld ?_) | (with_reducible refine x_sfld ?_) | (with_reducible refine x_par ?_) | (with_reducible refine x_par3 ?_) | (with_reducible refine x_dget ?_) | (with_reducible refine x_dput ?_)
  | (with_reducible refine x_bm ?_) | (with_reducible refine x_bm0 ?_) | (with_reducible refine x_pair ?_) | (with_reducible refine x_tri ?_) | (with_reducible refine x_int ?_) | (with_reducible refine x_intb ?_) | (with_reducible refine x_abs ?_) | (with_reducible refine x_isN ?_) | (with_reducible refine x_notN ?_) | (with_reducible refine x_meth ?_) | (with_reducible refine x_make ?_)
  | (with_reducible refine x_ite1 ?_) | (with_reducible refine x_ite0 ?_)
  | (with_reducible refine x_addi ?_) | (with_reducible refine x_neg ?_) | (with_reducible refine x_i0 ?_) | (with_reducible refine x_eqi ?_) | (with_reducible refine x_eqs ?_) | (with_reducible refine x_eqb ?_) | (with_reducible refine x_nei ?_) | (with_reducible refine x_lti ?_)
  | (with_reducible refine x_forL ?_) | (with_reducible refine x_forT ?_) | (with_reducible refine x_forR ?_) | (with_reducible refine x_forR2 ?_) | (with_reducible refine x_lcL ?_) | (with_reducible refine x_lcT ?_) | (with_reducible refine x_lcR ?_)
  | (with_reducible refine x_yes ?_) | (with_reducible refine x_pcons ?_) | (with_reducible refine x_pnil ?_) | (with_reducible refine x_gcons ?_) | (with_reducible refine x_gnil ?_) | (with_reducible refine x_gattr ?_) | (with_reducible refine x_raise ?_) | (with_reducible refine x_gsub ?_) | (with_reducible refine x_fldaug ?_) | (with_reducible refine x_radd ?_) | (with_reducible refine x_ipi ?_) | ((with_reducible refine x_aug (x := ?vv) ?hh ?qq); (case hh => exact rfl))
  | ((with_reducible refine x_iteA ?hc ?q); (case hc => exact rfl)) | ((with_reducible refine x_iteB ?hc ?q); (case hc => exact rfl))
  | ((with_reducible refine x_var (v := ?vv) ?hh ?qq); (case hh => exact rfl))
  | ((with_reducible refine r_isInt (d := ?dd) ?hh ?qq); (case hh => assumption)) | ((with_reducible refine r_isBool (d := ?dd) ?hh ?qq); (case hh => assumption)) | ((with_reducible refine r_isTup (d := ?dd) ?hh ?qq); (case hh => assumption))
  | ((with_reducible refine r_isStr (d := ?dd) ?hh ?qq); (case hh => assumption)) | ((with_reducible refine r_isLst (d := ?dd) ?hh ?qq); (case hh => assumption))))
local macro_rules | `(tactic| walk_at "y") => `(tactic| (repeat (walk_at "y1")))
theorem go_out {S T : List Addr} {H0 H H' : Hp} (g1 : Go S H0 H) (g2 : Go T H H') (n : ∀ s ∈ T, s ∈ S ∨ H0 s = none) : Go S H0 H' :=
  ⟨fun a o m h => g2.keep a o (fun z => (n a z).elim m (fun e => by rw [e] at h; cases h)) (g1.keep a o m h), fun a xs h => g2.tup _ _ (g1.tup _ _ h)⟩
theorem cutS_len (U : List (Nat × Entry)) : ∀ (ns : List Nat) (F : List Slot), (cutS U F ns).length = F.length
  | [], F => rfl
  | n :: ns, F => by
    show (cutS U (putS U F n) ns).length = _
    rw [cutS_len U ns]
    unfold putS
    split <;> simp
theorem cutS_ok {U : List (Nat × Entry)} (hU : ∀ p ∈ U, EntOk p.2) : ∀ (ns : List Nat) (F : List Slot), (∀ s ∈ F, SlotOk s) → ∀ s ∈ cutS U F ns, SlotOk s
  | [], F, h => h
  | n :: ns, F, h => by
    refine cutS_ok hU ns (putS U F n) fun s hs => ?_
    unfold putS at hs
    cases e : U[n]? with
    | none => rw [e] at hs; exact h s hs
    | some p =>
      rw [e] at hs
      rcases List.mem_or_eq_of_mem_set hs with z | z
      · exact h s z
      · rw [z]
        intro e' he
        cases he
        exact hU p (List.mem_of_getElem? e)
theorem DskOk.cut {S F : List Slot} {U : List (Nat × Entry)} {M : Nat} (h : DskOk S F U M) (ns : List Nat) : DskOk (cutS U F ns) (cutS U F ns) [] M :=
  ⟨cutS_ok (fun p hp => (h.u p hp).1) ns F h.f, cutS_ok (fun p hp => (h.u p hp).1) ns F h.f, by simp, by rw [cutS_len, h.lf], by rw [cutS_len, h.lf], h.m1, h.m2, by simp⟩
theorem pick_ok {S : List Slot} {M : Nat} {r0 r1 : Option (Nat × Nat × Page)} (h0 : RH S M 0 r0) (h1 : RH S M M r1) (so : ∀ s ∈ S, SlotOk s) {g h l : Nat} {p : Page} (e : pickH r0 r1 = some (g, h, l, p)) : h ≤ 1 ∧ l < M ∧ PageOk p := by
  have rd : ∀ {bb g l : Nat} {p : Page}, Rd S M bb g l p → l < M ∧ PageOk p := fun r => ⟨by obtain ⟨_, _, r, _⟩ := r; exact r.lt, r.page so⟩
  cases h0 with
  | none =>
    cases h1 with
    | none => cases e
    | some r1 => cases e; exact ⟨Nat.le_refl _, rd r1⟩
  | some r0 =>
    cases h1 with
    | none => cases e; exact ⟨Nat.zero_le _, rd r0⟩
    | some r1 =>
      unfold pickH at e
      dsimp only at e
      split at e
      · cases e; exact ⟨Nat.le_refl _, rd r1⟩
      · cases e; exact ⟨Nat.zero_le _, rd r0⟩
section
variable {P : Program} {w : World} {K : PySem.W.Frag} {mg : Str → Option Value} {base : Heap}
theorem book_any {dd ls lf lp : Addr} {S F : List Slot} {M : Nat} {H : Hp} {y : V} {first : Page} {Q : VK} {E : XK} (hl : LDisk K dd ls lf lp S F [] H) (ok : DskOk S F [] M) (wy : Wt K H y (pageD first)) (hp : PageOk first)
    (q : ∀ od lf' lp' S' F' bk H', Go [dd, ls, lp] H H' → H od = none → (lf' = lf ∨ H lf' = none) → (lp' = lp ∨ H lp' = none) → OwnAt K od bk H' → LDisk K dd ls lf' lp' S' F' [] H' → DskOk S' F' [] M → PageOk bk.page → bk.half ≤ 1 → bk.last < M → Q (.ref od) H') : spBookL K [.ref dd, y] H Q E := by
  have m1 := ok.m1
  obtain ⟨r0, h0⟩ := rh_exists S M 0 (by rw [ok.ls]; omega) (by omega)
  obtain ⟨r1, h1⟩ := rh_exists S M M (by rw [ok.ls]; omega) (by omega)
  refine ⟨dd, ls, lf, lp, y, first, S, F, [], M, r0, r1, rfl, hl, ok, by simp, wy, hp, h0, h1, ?_⟩
  cases e : pickH r0 r1 with
  | none =>
    intro od lf' lp' H' g n1 n2 ho hl'
    refine q od lf' lp' _ _ _ H' g n1 (.inr n2.1) (.inr n2.2) ho hl' ?_ hp (Nat.zero_le _) (by show 0 < M; omega)
    have hs : ∀ s ∈ S.set 0 (some (⟨1, 1 + lifeOf S, 0, first⟩ : Entry)), SlotOk s := fun s hs => by
      rcases List.mem_or_eq_of_mem_set hs with z | z
      · exact ok.s s z
      · rw [z]; intro e he; cases he; exact hp
    exact ⟨hs, hs, by simp, by rw [List.length_set]; exact ok.ls, by rw [List.length_set]; exact ok.ls, ok.m1, ok.m2, by simp⟩
  | some x =>
    obtain ⟨g, h, l, p⟩ := x
    obtain ⟨k1, k2, k3⟩ := pick_ok h0 h1 ok.s e
    intro od H' ex n1 ho
    exact q od lf lp S F _ H' ex.go n1 (.inl rfl) (.inl rfl) ho (hl.go ok ex.go (L := []) (by simp)) ok k3 k1 k2
/-- an own disk and an own journal, made behind H0 -/
structure FS (K : PySem.W.Frag) (H0 : Hp) (b dd od ls lf lp : Addr) (S F : List Slot) (U : List (Nat × Entry)) (M : Nat) (bk : Bk) (H : Hp) : Prop where
  g : Go [b] H0 H
  bx : BoxAt b H
  ld : LDisk K dd ls lf lp S F U H
  ow : OwnAt K od bk H
  ok : DskOk S F U M
  pg : PageOk bk.page
  hh : bk.half ≤ 1
  hl : bk.last < M
  uu : U.length ≤ bk.last + 1
  fr : H0 dd = none ∧ H0 od = none ∧ H0 ls = none ∧ H0 lf = none ∧ H0 lp = none
  b0 : H0 b ≠ none
section
variable {H0 H H' : Hp} {b dd od ls lf lp : Addr} {S F : List Slot} {U : List (Nat × Entry)} {M : Nat} {bk : Bk}
theorem FS.nb (r : FS K H0 b dd od ls lf lp S F U M bk H) : b ≠ dd ∧ b ≠ od ∧ b ≠ ls ∧ b ≠ lf ∧ b ≠ lp :=
  ⟨fun z => r.b0 (z ▸ r.fr.1), fun z => r.b0 (z ▸ r.fr.2.1), fun z => r.b0 (z ▸ r.fr.2.2.1), fun z => r.b0 (z ▸ r.fr.2.2.2.1), fun z => r.b0 (z ▸ r.fr.2.2.2.2)⟩
theorem FS.ne (r : FS K H0 b dd od ls lf lp S F U M bk H) : od ≠ dd := fun z => by
  obtain ⟨v, e, _⟩ := r.ow
  have := r.ld.d
  rw [← z, e] at this
  simp [ownF] at this
theorem FS.box (r : FS K H0 b dd od ls lf lp S F U M bk H) (g : Go [b] H H') (hb : BoxAt b H') : FS K H0 b dd od ls lf lp S F U M bk H' := by
  obtain ⟨n1, n2, n3, n4, n5⟩ := r.nb
  exact ⟨r.g.trans g, hb, r.ld.go r.ok g ⟨by simp [Ne.symm n1], by simp [Ne.symm n3], by simp [Ne.symm n4], by simp [Ne.symm n5]⟩, r.ow.go r.pg g (by simp [Ne.symm n2]), r.ok, r.pg, r.hh, r.hl, r.uu, r.fr, r.b0⟩
theorem FS.ex (r : FS K H0 b dd od ls lf lp S F U M bk H) (e : Ex H H') : FS K H0 b dd od ls lf lp S F U M bk H' := r.box e.go (r.bx.go e.go (S := []) (by simp))
theorem FS.free (r : FS K H0 b dd od ls lf lp S F U M bk H) {x : Addr} (h : H x = none) : H0 x = none := go_free r.g (fun s hs => by rw [List.mem_singleton.mp hs]; exact box_ne r.bx) h
theorem DskOk.add {p : Page} (h : DskOk S F U M) (op : PageOk bk.page) (hp : PageOk p) (hh : bk.half ≤ 1) (hl : bk.last < M) (hu : U.length ≤ bk.last + 1) :
    DskOk (S.set (addN M bk) (some (addE M bk p))) (if bk.last + 1 < M then F else S) (if bk.last + 1 < M then U ++ [(addN M bk, addE M bk p)] else [(addN M bk, addE M bk p)]) M := by
  have m1 := h.m1
  have m2 := h.m2
  have eok : EntOk (addE M bk p) := by
    unfold addE
    split
    · exact hp
    · exact op.over hp
  have nlt : addN M bk < 2 * M := by
    unfold addN
    split
    · exact place_lt hh (by assumption)
    · exact place_lt (by omega) (by omega)
  have hs : ∀ s ∈ S.set (addN M bk) (some (addE M bk p)), SlotOk s := fun s hs => by
    rcases List.mem_or_eq_of_mem_set hs with z | z
    · exact h.s s z
    · rw [z]; intro e he; cases he; exact eok
  refine ⟨hs, ?_, ?_, by rw [List.length_set]; exact h.ls, ?_, h.m1, h.m2, ?_⟩
  · split
    · exact h.f
    · exact h.s
  · intro q hq
    split at hq
    · rcases List.mem_append.mp hq with z | z
      · exact h.u q z
      · rw [List.mem_singleton.mp z]; exact ⟨eok, nlt⟩
    · rw [List.mem_singleton.mp hq]; exact ⟨eok, nlt⟩
  · split
    · exact h.lf
    · exact h.ls
  · split
    · simp; omega
    · simp
theorem FS.add {lf' lp' : Addr} {p : Page} (r : FS K H0 b dd od ls lf lp S F U M bk H) (hp : PageOk p) (g : Go [dd, od, ls, lp] H H') (f1 : lf' = lf ∨ H lf' = none) (f2 : lp' = lp ∨ H lp' = none) (ho : OwnAt K od (addB M bk p) H')
    (hl : LDisk K dd ls lf' lp' (S.set (addN M bk) (some (addE M bk p))) (if bk.last + 1 < M then F else S) (if bk.last + 1 < M then U ++ [(addN M bk, addE M bk p)] else [(addN M bk, addE M bk p)]) H') :
    FS K H0 b dd od ls lf' lp' (S.set (addN M bk) (some (addE M bk p))) (if bk.last + 1 < M then F else S) (if bk.last + 1 < M then U ++ [(addN M bk, addE M bk p)] else [(addN M bk, addE M bk p)]) M (addB M bk p) H' := by
  have nb := r.nb
  have m1 := r.ok.m1
  have hh := r.hh
  have uu := r.uu
  refine ⟨go_out r.g g fun s hs => .inr ?_, r.bx.go g (by simp [nb.1, nb.2.1, nb.2.2.1, nb.2.2.2.2]), hl, ho, r.ok.add r.pg hp r.hh r.hl r.uu, ?_, ?_, ?_, ?_, ⟨r.fr.1, r.fr.2.1, r.fr.2.2.1, ?_, ?_⟩, r.b0⟩
  · simp only [List.mem_cons, List.not_mem_nil, or_false] at hs
    rcases hs with rfl | rfl | rfl | rfl
    · exact r.fr.1
    · exact r.fr.2.1
    · exact r.fr.2.2.1
    · exact r.fr.2.2.2.2
  · unfold addB; split <;> exact r.pg.over hp
  · unfold addB
    split
    · exact hh
    · show 1 - bk.half ≤ 1; omega
  · unfold addB
    split
    · assumption
    · show 0 < M; omega
  · unfold addB
    split
    · simp; omega
    · simp
  · rcases f1 with rfl | f1
    · exact r.fr.2.2.2.1
    · exact r.free f1
  · rcases f2 with rfl | f2
    · exact r.fr.2.2.2.2
    · exact r.free f2
end
def spFilled (K : PySem.W.Frag) : Sp := fun vs H Q _ => ∃ (b : Addr) (M : Nat), vs = [.ref b, .int ((2 * M : Nat) : Int)] ∧ BoxAt b H ∧ 2 ≤ M ∧ M ≤ 10 ∧ ∀ ls xs (S : List Slot) H', Go [b] H H' → BoxAt b H' → H ls = none → H' ls = some (.lst xs) → WtL K H' xs (S.map slD) → S.length = 2 * M → (∀ s ∈ S, SlotOk s) → Q (.ref ls) H'
abbrev s_filled : Stmt := top 45
abbrev nms_filled : List Str := ["box", "many", "slots", "book", "turn", "k"]
theorem sc_filled : FnScope nms_filled ["box", "many"] (defScope s_filled) := ⟨rfl, rfl, rfl, by decide +kernel, rfl, by decide +kernel, by decide +kernel⟩
theorem ok_filled {f : Addr} {fd : FuncData} (F : Fun K "_law_filled" "_law_filled" s_filled f fd) (hm : mg "_law_filled" = some (.ref f)) (b : Binds K fd ["box", "many"] []) (T : Bt mg)
    (c_disk : Cal P w K mg base 1 "_law_disk" (spDiskL K)) (c_book : Cal P w K mg base 4 "_law_book" (spBookL K)) (c_row : Cal P w K mg base 4 "_law_row" (spRowL K)) (c_pick : Cal P w K mg base 2 "_law_pick" spPick) (c_take : Cal P w K mg base 1 "_law_take" spTake) (c_add : Cal P w K mg base 2 "_law_add" (spAddL K)) (c_cut : Cal P w K mg base 1 "_law_cut" (spCut K)) :
    Cal P w K mg base 5 "_law_filled" (spFilled K) := by
  refine cal_of F hm b sc_filled (fun vs H Q E h => ?_) (fun cdv A outer s H vs Q E hr h => ?_)
  · obtain ⟨b, M, rfl, _⟩ := h
    rfl
  · obtain ⟨b, M, rfl, hb, m1, m2, q⟩ := h
    have hu64 := pass_hu64 hr
    have hu1 : (A.deeper (PyProof.Rows.envOfC "_law_filled" (defScope s_filled) s.heap.objs.size f cdv)).units + 1 < cLine := by have := hr.un; omega
    refine ⟨_, (pss_cons (ps_set (i := 2) sc_filled.nd rfl (by first | exact Or.inl rfl | exact Or.inr rfl) (pe_c c_disk hr (by decide) (by rfl) (pa_cons (pv 1) pa_nil)))
    (pss_cons (ps_set (i := 3) sc_filled.nd rfl (by first | exact Or.inl rfl | exact Or.inr rfl) (pe_c c_book hr (by decide) (by rfl) (pa_cons (pv 2) (pa_cons (pe_c c_row hr (by decide) (by rfl) (pa_cons (pv 0) (pa_cons pe_int (pa_cons pe_int pa_nil)))) pa_nil))))
    (pss_cons (ps_for (passes_of rfl) rfl (pi_range1 (by rfl) T.range (pa_cons (pe_c c_pick hr (by decide) (by rfl) (pa_cons (pv 0) (pa_cons (pe_lst (pa_cons pe_int (pa_cons pe_int (pa_cons (pe_op op_fdivN (pv 1) pe_int) (pa_cons (pv 1) (pa_cons (pe_op (oAddK K) (pv 1) (pe_c c_take hr (by decide) (by rfl) (pa_cons (pv 0) (pa_cons (pv 1) pa_nil)))) pa_nil)))))) pa_nil))) pa_nil)) (pg_name (i := 4) sc_filled.nd rfl (by first | exact Or.inl rfl | exact Or.inr rfl))
    (pss_cons (ps_expr (pe_c c_add hr (by decide) (by rfl) (pa_cons (pv 2) (pa_cons (pv 3) (pa_cons (pe_c c_row hr (by decide) (by rfl) (pa_cons (pv 0) (pa_cons pe_int (pa_cons pe_int pa_nil)))) pa_nil)))))
    (pss_one (ps_if (pt_cmpR (oEqK K hu64) (pe_c c_take hr (by decide) (by rfl) (pa_cons (pv 0) (pa_cons pe_int pa_nil))) pe_int (nomark _))
    (pss_cons (ps_expr (pe_c c_cut hr (by decide) (by rfl) (pa_cons (pv 2) (pa_cons (pe_lc (own := [("k", 5)]) rfl sc_filled.nd (pi_range1 (by rfl) T.range (pa_cons (pe_callB cLen (by rfl) T.len (by decide +kernel) (pa_cons (pe_dget hu1 (pv 2) pe_str (fun _ _ => rfl)) pa_nil)) pa_nil)) (blkOk_by (N := nms_filled) (sc := defScope s_filled) (by decide +kernel)) (fun _ _ _ _ _ => (pg_name (i := 5) sc_filled.nd rfl (by first | exact Or.inl rfl | exact Or.inr rfl))) (fun _ _ _ _ _ => (pts_one (pt_cmpR (oEqK K hu64) (pe_c c_take hr (by decide) (by rfl) (pa_cons (pv 0) (pa_cons pe_int pa_nil))) pe_int (nomark _)))) (fun _ _ _ _ _ => (pv 5))) pa_nil))))
    (pss_one (ps_set (i := 3) sc_filled.nd rfl (by first | exact Or.inl rfl | exact Or.inr rfl) (pe_c c_book hr (by decide) (by rfl) (pa_cons (pv 2) (pa_cons (pe_tup pa_nil) pa_nil))))))
    pss_nil))))
    (pss_one (ps_ret (pe_dget hu1 (pv 2) pe_str (fun _ _ => rfl))))))), ?_⟩
    try dsimp only [cxOf]
    walk_at "y"
    refine ⟨2 * M, rfl, by omega, fun dd ls lf lp H1 e1 f1 f2 f3 f4 hl1 => ?_⟩
    have e0 : List.replicate (2 * M) (PyData.tuple []) = (List.replicate (2 * M) (none : Slot)).map slD := by rw [List.map_replicate]; rfl
    rw [e0] at hl1
    have hl1 : LDisk K dd ls lf lp (List.replicate (2 * M) none) (List.replicate (2 * M) none) [] H1 := hl1
    have so0 : ∀ s ∈ List.replicate (2 * M) (none : Slot), SlotOk s := fun s hs => by
      rw [(List.mem_replicate.mp hs).2]
      intro e he
      cases he
    have ok0 : DskOk (List.replicate (2 * M) (none : Slot)) (List.replicate (2 * M) (none : Slot)) [] M := ⟨so0, so0, by simp, by simp, by simp, m1, by omega, by simp⟩
    have hb1 := hb.go e1.go (S := []) (by simp)
    have nb : ∀ x, H x = none → b ≠ x := fun x hx z => box_ne hb (by rw [z]; exact hx)
    walk_at "y"
    refine ⟨b, 2, 3, rfl, hb1, by decide, by decide, by decide, fun y first H2 g2 hb2 wy hp => ?_⟩
    have hl2 := hl1.go ok0 g2 ⟨by simp [Ne.symm (nb _ f1)], by simp [Ne.symm (nb _ f2)], by simp [Ne.symm (nb _ f3)], by simp [Ne.symm (nb _ f4)]⟩
    walk_at "y"
    refine book_any hl2 ok0 wy hp fun od lf2 lp2 S2 F2 bk2 H3 g3 n3 k1 k2 ho3 hl3 ok3 pg3 hh3 hl3' => ?_
    have G2 : Go [b] H H2 := (e1.go.trans g2)
    have fre : ∀ x, H2 x = none → H x = none := fun x hx => go_free G2 (fun s hs => by rw [List.mem_singleton.mp hs]; exact box_ne hb2) hx
    have r3 : FS K H b dd od ls lf2 lp2 S2 F2 [] M bk2 H3 := by
      refine ⟨go_out G2 g3 fun s hs => .inr ?_, hb2.go g3 (by simp [nb _ f1, nb _ f2, nb _ f4]), hl3, ho3, ok3, pg3, hh3, hl3', by simp, ⟨f1, fre _ n3, f2, ?_, ?_⟩, box_ne hb⟩
      · simp only [List.mem_cons, List.not_mem_nil, or_false] at hs
        rcases hs with rfl | rfl | rfl
        · exact f1
        · exact f2
        · exact f4
      · rcases k1 with rfl | k1
        · exact f3
        · exact fre _ k1
      · rcases k2 with rfl | k2
        · exact f4
        · exact fre _ k2
    walk_at "y"
    refine x_iC (cdiv2 _) ?_
    rw [fdiv2, show 2 * M / 2 = M by omega]
    walk_at "y"
    refine ⟨b, 2 * M, rfl, r3.bx, by omega, by omega, fun rr H4 hr4 g4 hb4 => ?_⟩
    have r4 := r3.box g4 hb4
    walk_at "y"
    refine x_mkl fun p5 H5 e5 n5 h5 => ?_
    have r5 := r4.ex e5
    have nb5 : b ≠ p5 := fun z => box_ne r4.bx (by rw [z]; exact n5)
    walk_at "y"
    refine ⟨b, p5, _, rfl, r5.bx, h5, nb5, by simp, by simp, fun i x6 H6 hx6 g6 hb6 => ?_⟩
    have r6 := r5.box g6 hb6
    obtain ⟨R, rfl, hR⟩ : ∃ R : Nat, x6 = .int (R : Int) ∧ R ≤ 40 := by
      match i with
      | 0 => cases hx6; exact ⟨0, rfl, by decide⟩
      | 1 => cases hx6; exact ⟨1, rfl, by decide⟩
      | 2 => cases hx6; exact ⟨M, rfl, by omega⟩
      | 3 => cases hx6; exact ⟨2 * M, rfl, by omega⟩
      | 4 => cases hx6; exact ⟨2 * M + rr, rfl, by omega⟩
      | _ + 5 => cases hx6
    walk_at "y"
    refine y_forR R (fun i σ' H' => ∃ (od ls lf lp : Addr) (S F : List Slot) (U : List (Nat × Entry)) (bk : Bk) (o4 o5 : Option V), σ' = [some (.ref b), some (.int ((2 * M : Nat) : Int)), some (.ref dd), some (.ref od), o4, o5] ∧ FS K H b dd od ls lf lp S F U M bk H') (by omega) ⟨od, ls, lf2, lp2, S2, F2, [], bk2, _, _, rfl, r6⟩ (fun i σ' H7 hi p => ?_) fun σ' H7 p => ?_
    · obtain ⟨od, ls, lf, lp, S, F, U, bk, o4, o5, rfl, r7⟩ := p
      walk_at "y"
      refine ⟨b, 2, 3, rfl, r7.bx, by decide, by decide, by decide, fun y p H8 g8 hb8 wy hp => ?_⟩
      have r8 := r7.box g8 hb8
      walk_at "y"
      refine ⟨dd, ls, lf, lp, od, y, p, bk, S, F, U, M, rfl, r8.ld, r8.ok, r8.ow, r8.pg, r8.hh, r8.hl, wy, hp, r8.ne, fun lf9 lp9 H9 g9 k1 k2 ho9 hl9 => ?_⟩
      obtain ⟨S', F', U', bk', r9⟩ : ∃ S' F' U' bk', FS K H b dd od ls lf9 lp9 S' F' U' M bk' H9 := ⟨_, _, _, _, r8.add hp g9 k1 k2 ho9 hl9⟩
      walk_at "y"
      refine ⟨b, 6, rfl, r9.bx, by decide, by decide, fun t H10 ht g10 hb10 => ?_⟩
      have r10 := r9.box g10 hb10
      walk_at "y"
      by_cases c : t = 0
      · rw [show decide ((t : Int) = 0) = true from decide_eq_true (by omega)]
        obtain ⟨zs, ez, wz⟩ := r10.ld.p
        have lz : zs.length = U'.length := by rw [wz.len, List.length_map, List.length_map]
        have lu := r10.ok.lu
        walk_at "y"
        refine x_kdgetK r10.ld.d rfl ?_
        walk_at "y"
        refine x_lenl ez ?_
        rw [lz]
        walk_at "y"
        refine y_lcR (K := K) [b] (fun H' => BoxAt b H') (fun i ds => ∃ ns, ds = numsD ns ∧ Asc ns i) U'.length (by omega) (by intro z hz; rw [List.mem_singleton.mp hz]; exact box_ne r10.bx) (keeps_box r10.bx) r10.bx ⟨[], rfl, .nil, by simp⟩ (fun i Hd ds hi gd hbd hds ok no hok hno => ?_) (fun pe acc ds He ne ge hbe he we te hds => ?_)
        · obtain ⟨ns, rfl, hns⟩ := hds
          refine turn_nameT rfl ?_
          walk_at "y"
          refine ⟨b, 2, rfl, hbd, by decide, by decide, fun r Hf hr gf hbf => ?_⟩
          walk_at "y"
          by_cases c : r = 0
          · rw [show decide ((r : Int) = 0) = true from decide_eq_true (by omega)]
            walk_at "y"
            refine hok _ (.int (i : Int)) Hf gf hbf (.int _) rfl ⟨ns ++ [i], by unfold numsD; rw [List.map_append]; rfl, ?_, ?_⟩
            · exact List.pairwise_append.mpr ⟨hns.1, by simp, fun x hx y hy => by rw [List.mem_singleton.mp hy]; exact hns.2 x hx⟩
            · intro x hx
              rcases List.mem_append.mp hx with z | z
              · have := hns.2 x z; omega
              · rw [List.mem_singleton.mp z]; omega
          · rw [show decide ((r : Int) = 0) = false from decide_eq_false (by omega)]
            walk_at "y"
            exact hno Hf gf hbf ⟨ns, rfl, hns.1, fun x hx => by have := hns.2 x hx; omega⟩
        obtain ⟨ns, rfl, hns⟩ := hds
        rw [nums_of we] at he
        have r11 := r10.box ge hbe
        walk_at "y"
        refine ⟨dd, ls, lf9, lp9, pe, ns, S', F', U', M, rfl, he, r11.ld, r11.ok, hns, fun ls12 lf12 lp12 H12 g12 j1 j2 j3 hl12 => ?_⟩
        have ok12 := r11.ok.cut ns
        have nb := r11.nb
        have hb12 := r11.bx.go g12 (by simp [nb.1])
        have G12 : Go [b] H H12 := go_out r11.g g12 fun s hs => .inr (by rw [List.mem_singleton.mp hs]; exact r11.fr.1)
        walk_at "y"
        refine x_mkt (K := K) .nil fun u13 H13 e13 w13 => ?_
        have hl13 := hl12.go ok12 e13.go (L := []) (by simp)
        have G13 := G12.trans e13.go
        have hb13 := hb12.go e13.go (S := []) (by simp)
        have fre13 : ∀ x, H13 x = none → H x = none := fun x hx => go_free G13 (fun s hs => by rw [List.mem_singleton.mp hs]; exact box_ne hb13) hx
        walk_at "y"
        refine book_any (first := []) hl13 ok12 w13 PageOk.nil fun od14 lf14 lp14 S14 F14 bk14 H14 g14 n14 k1 k2 ho14 hl14 ok14 pg14 hh14 hl14' => ?_
        have f12 : H ls12 = none ∧ H lf12 = none ∧ H lp12 = none := ⟨r11.free j1, r11.free j2, r11.free j3⟩
        have nb12 : ∀ x, H x = none → b ≠ x := fun x hx z => box_ne hb (by rw [z]; exact hx)
        walk_at "y"
        refine ⟨od14, ls12, lf14, lp14, S14, F14, [], bk14, _, _, rfl, go_out G13 g14 fun s hs => .inr ?_, hb13.go g14 (by simp [nb12 _ r11.fr.1, nb12 _ f12.1, nb12 _ f12.2.2]), hl14, ho14, ok14, pg14, hh14, hl14', by simp, ⟨r11.fr.1, fre13 _ n14, f12.1, ?_, ?_⟩, box_ne hb⟩
        · simp only [List.mem_cons, List.not_mem_nil, or_false] at hs
          rcases hs with rfl | rfl | rfl
          · exact r11.fr.1
          · exact f12.1
          · exact f12.2.2
        · rcases k1 with rfl | k1
          · exact f12.2.1
          · exact fre13 _ k1
        · rcases k2 with rfl | k2
          · exact f12.2.2
          · exact fre13 _ k2
      · rw [show decide ((t : Int) = 0) = false from decide_eq_false (by omega)]
        walk_at "y"
        exact ⟨od, ls, lf9, lp9, S', F', U', bk', _, o5, rfl, r10⟩
    · obtain ⟨od, ls, lf, lp, S, F, U, bk, o4, o5, rfl, r7⟩ := p
      obtain ⟨xs, e7, w7⟩ := r7.ld.s
      walk_at "y"
      refine x_kdgetK r7.ld.d rfl ?_
      exact q ls xs S H7 r7.g r7.bx r7.fr.2.2.1 e7 w7 r7.ok.ls r7.ok.s
end
end Y
/-! part F1 -/
/-! Slots spoilt, halves made. -/
namespace Y
open PySem LamX L2
local macro_rules | `(tactic| walk_at "y1") => `(tactic| (first
  | (with_reducible refine x_seq ?_) | (with_reducible refine x_asg ?_) | (with_reducible refine x_name ?_) | (with_reducible refine x_drop ?_) | (with_reducible refine x_ret ?_) | (with_reducible refine x_retN ?_)
  | (with_reducible refine x_next ?_) | (with_reducible refine x_brk ?_) | (with_reducible refine x_ifS ?_)
  | (with_reducible refine x_c ?_) | (with_reducible refine x_op ?_) | (with_reducible refine x_un ?_) | (with_reducible refine x_cb ?_) | (with_reducible refine x_cons ?_) | (with_reducible refine x_nil ?_)
  | (with_reducible refine x_call ?_) | (with_reducible refine x_tup ?_) | (with_reducible refine x_lst ?_) | (with_reducible refine x_sl ?_) | (with_reducible refine x_nopart ?_) | (with_reducible refine x_part ?_)
  | (with_reducible refine x_andV ?_) | (with_reducible refine x_orV ?_) | (with_reducible refine x_notV ?_) | (with_reducible refine x_if ?_) | (with_reducible refine x_test ?_) | (with_reducible refine x_tb ?_)
  | (with_reducible refine x_and ?_) | (with_reducible refine x_or ?_) | (with_reducible refine x_not ?_) | (with_reducible refine x_chain ?_) | (with_reducible refine x_exbl ?_) | (with_reducible refine x_exint ?_)
  | (with_reducible refine x_fld ?_) | (with_reducible refine x_sfld ?_) | (with_reducible refine x_par ?_) | (with_reducible refine x_par3 ?_) | (with_reducible refine x_dget ?_) | (with_reducible refine x_dput ?_)
  | (with_reducible refine x_bm ?_) | (with_reducible refine x_bm0 ?_) | (with_reducible refine x_pair ?_) | (with_reducible refine x_tri ?_) | (with_reducible refine x_int ?_) | (with_reducible refine x_intb ?_) | (with_reducible refine x_abs ?_) | (with_reducible refine x_isN ?_) | (with_reducible refine x_notN ?_) | (with_reducible refine x_meth ?_) | (with_reducible refine x_make ?_)
  | (with_reducible refine x_ite1 ?_) | (with_reducible refine x_ite0 ?_)
  | (with_reducible refine x_addi ?_) | (with_reducible refine x_neg ?_) | (with_reducible refine x_i0 ?_) | (with_reducible refine x_eqi ?_) | (with_reducible refine x_eqs ?_) | (with_reducible refine x_eqb ?_) | (with_reducible refine x_nei ?_) | (with_reducible refine x_lti ?_)
  | (with_reducible refine x_forL ?_) | (with_reducible refine x_forT ?_) | (with_reducible refine x_forR ?_) | (with_reducible refine x_forR2 ?_) | (with_reducible refine x_lcL ?_) | (with_reducible refine x_lcT ?_) | (with_reducible refine x_lcR ?_)
  | (with_reducible refine x_yes ?_) | (with_reducible refine x_pcons ?_) | (with_reducible refine x_pnil ?_) | (with_reducible refine x_gcons ?_) | (with_reducible refine x_gnil ?_) | (with_reducible refine x_gattr ?_) | (with_reducible refine x_raise ?_) | (with_reducible refine x_gsub ?_) | (with_reducible refine x_fldaug ?_) | (with_reducible refine x_radd ?_) | (with_reducible refine x_ipi ?_) | ((with_reducible refine x_aug (x := ?vv) ?hh ?qq); (case hh => exact rfl))
  | ((with_reducible refine x_iteA ?hc ?q); (case hc => exact rfl)) | ((with_reducible refine x_iteB ?hc ?q); (case hc => exact rfl))
  | ((with_reducible refine x_var (v := ?vv) ?hh ?qq); (case hh => exact rfl))
  | ((with_reducible refine r_isInt (d := ?dd) ?hh ?qq); (case hh => assumption)) | ((with_reducible refine r_isBool (d := ?dd) ?hh ?qq); (case hh => assumption)) | ((with_reducible refine r_isTup (d := ?dd) ?hh ?qq); (case hh => assumption))
  | ((with_reducible refine r_isStr (d := ?dd) ?hh ?qq); (case hh => assumption)) | ((with_reducible refine r_isLst (d := ?dd) ?hh ?qq); (case hh => assumption))))
local macro_rules | `(tactic| walk_at "y") => `(tactic| (repeat (walk_at "y1")))
theorem x_ifAny {σ : L2.St} {H : Hp} {c : TT} {A B : TS} {D : Ends} (key : ∀ b : Bool, if b = true then A D σ H else B D σ H) (q : (∀ b : Bool, if b = true then A D σ H else B D σ H) → c σ H fun b H1 => if b = true then A D σ H1 else B D σ H1) : tIfS c A B D σ H := q key
theorem x_ifJ {σ : L2.St} {H : Hp} (J : L2.St → Hp → Prop) {c : TT} {A B : TS} {D : Ends} (h : ∀ σ' H', J σ' H' → D.nx σ' H') (q : ∀ nx' : L2.St → Hp → Prop, (∀ σ' H', J σ' H' → nx' σ' H') → tIfS c A B { D with nx := nx' } σ H) : tIfS c A B D σ H := q D.nx h
theorem x_ifInv {σ : L2.St} {H : Hp} (I : Bool → Hp → Prop) {c : TT} {A B : TS} {D : Ends} (key : ∀ b H1, I b H1 → if b = true then A D σ H1 else B D σ H1) (q : ∀ Qq : Bool → Hp → Prop, (∀ b H1, I b H1 → Qq b H1) → c σ H Qq) : tIfS c A B D σ H := q _ key
section
variable {P : Program} {w : World} {K : PySem.W.Frag} {mg : Str → Option Value} {base : Heap}
def spSpoilt (K : PySem.W.Frag) : Sp := fun vs H Q _ => ∃ (b l : Addr) (xs : List V) (S : List Slot) (M : Nat), vs = [.ref b, .ref l] ∧ BoxAt b H ∧ b ≠ l ∧ H l = some (.lst xs) ∧ WtL K H xs (S.map slD) ∧ S.length = 2 * M ∧ 2 ≤ M ∧ M ≤ 32 ∧ (∀ s ∈ S, SlotOk s) ∧
  ∀ p ys (S' : List Slot) H', Go [b] H H' → BoxAt b H' → H p = none → H' p = some (.lst ys) → WtL K H' ys (S'.map slD) → S'.length = 2 * M → (∀ s ∈ S', SlotOk s) → Q (.ref p) H'
/-- a row of slots at p, made behind H0 -/
structure RS (K : PySem.W.Frag) (H0 : Hp) (b p : Addr) (S : List Slot) (M : Nat) (H : Hp) : Prop where
  g : Go [b] H0 H
  bx : BoxAt b H
  fr : H0 p = none
  b0 : H0 b ≠ none
  at_ : ∃ ys, H p = some (.lst ys) ∧ WtL K H ys (S.map slD)
  len : S.length = 2 * M
  ok : ∀ s ∈ S, SlotOk s
section
variable {H0 H H' : Hp} {b p : Addr} {S : List Slot} {M : Nat}
theorem sl_to (h : ∀ s ∈ S, SlotOk s) : tupOnlyL (S.map slD) = true := (lay_slots h).to
theorem RS.nb (r : RS K H0 b p S M H) : b ≠ p := fun z => r.b0 (z ▸ r.fr)
theorem RS.box (r : RS K H0 b p S M H) (g : Go [b] H H') (hb : BoxAt b H') : RS K H0 b p S M H' := by
  obtain ⟨ys, e, w⟩ := r.at_
  exact ⟨r.g.trans g, hb, r.fr, r.b0, ⟨ys, g.keep _ _ (by simp [Ne.symm r.nb]) e, w.go g (sl_to r.ok)⟩, r.len, r.ok⟩
theorem RS.ex (r : RS K H0 b p S M H) (e : Ex H H') : RS K H0 b p S M H' := r.box e.go (r.bx.go e.go (S := []) (by simp))
theorem RS.set {n : Nat} {s : Slot} {ys : List V} {v : V} (r : RS K H0 b p S M H) (hs : SlotOk s) (wv : Wt K H v (slD s)) (e : H p = some (.lst ys)) (wy : WtL K H ys (S.map slD)) (g : Go [p] H H') (h : H' p = some (.lst (ys.set n v))) : RS K H0 b p (S.set n s) M H' := by
  have hs' : ∀ x ∈ S.set n s, SlotOk x := fun x hx => by
    rcases List.mem_or_eq_of_mem_set hx with z | z
    · exact r.ok x z
    · rw [z]; exact hs
  refine ⟨go_out r.g g fun x hx => .inr (by rw [List.mem_singleton.mp hx]; exact r.fr), r.bx.go g (by simp [r.nb]), r.fr, r.b0, ⟨_, h, ?_⟩, by rw [List.length_set]; exact r.len, hs'⟩
  have t := sl_to hs'
  rw [List.map_set] at t ⊢
  exact (wy.set wv n).go g t
end
theorem lay_go {n : Nat} {H H' : Hp} {S : List Addr} {v : V} {d : PyData} (h : Wt K H v d) (l : Lay n d) (g : Go S H H') : Wt K H' v d := h.go g l.to
abbrev s_spoilt : Stmt := top 46
abbrev nms_spoilt : List Str := ["box", "slots", "row", "size", "turn", "place", "entry", "kind"]
theorem sc_spoilt : FnScope nms_spoilt ["box", "slots"] (defScope s_spoilt) := ⟨rfl, rfl, rfl, by decide +kernel, rfl, by decide +kernel, by decide +kernel⟩
theorem ok_spoilt {f : Addr} {fd : FuncData} (F : Fun K "_law_spoilt" "_law_spoilt" s_spoilt f fd) (hm : mg "_law_spoilt" = some (.ref f)) (b : Binds K fd ["box", "slots"] []) (T : Bt mg)
    (c_row : Cal P w K mg base 4 "_law_row" (spRowL K)) (c_pick : Cal P w K mg base 2 "_law_pick" spPick) (c_take : Cal P w K mg base 1 "_law_take" spTake) :
    Cal P w K mg base 5 "_law_spoilt" (spSpoilt K) := by
  refine cal_of F hm b sc_spoilt (fun vs H Q E h => ?_) (fun cdv A outer s H vs Q E hr h => ?_)
  · obtain ⟨b, l, xs, S, M, rfl, _⟩ := h
    rfl
  · obtain ⟨b, l, xs, S, M, rfl, hb, nbl, el, wl, hS, m1, m2, so, q⟩ := h
    have hu64 := pass_hu64 hr
    have hu1 : (A.deeper (PyProof.Rows.envOfC "_law_spoilt" (defScope s_spoilt) s.heap.objs.size f cdv)).units + 1 < cLine := by have := hr.un; omega
    refine ⟨_, (pss_cons (ps_par rfl sc_spoilt.nd (i := 2) (j := 3) rfl rfl (by decide) rfl rfl (pa_cons (pe_callTy cList (by rfl) T.list (by decide +kernel) (pa_cons (pv 1) pa_nil)) (pa_cons (pe_op op_fdivN (pe_callB cLen (by rfl) T.len (by decide +kernel) (pa_cons (pv 1) pa_nil)) pe_int) pa_nil)) (by rfl))
    (pss_cons (ps_for (passes_of rfl) rfl (pi_range1 (by rfl) T.range (pa_cons (pe_c c_take hr (by decide) (by rfl) (pa_cons (pv 0) (pa_cons pe_int pa_nil))) pa_nil)) (pg_name (i := 4) sc_spoilt.nd rfl (by first | exact Or.inl rfl | exact Or.inr rfl))
    (pss_cons (ps_set (i := 5) sc_spoilt.nd rfl (by first | exact Or.inl rfl | exact Or.inr rfl) (pe_c c_pick hr (by decide) (by rfl) (pa_cons (pv 0) (pa_cons (pe_lst (pa_cons pe_int (pa_cons (pv 3) (pa_cons (pe_c c_take hr (by decide) (by rfl) (pa_cons (pv 0) (pa_cons (pe_callB cLen (by rfl) T.len (by decide +kernel) (pa_cons (pv 2) pa_nil)) pa_nil))) (pa_cons (pe_op (oAddK K) pe_int (pe_c c_take hr (by decide) (by rfl) (pa_cons (pv 0) (pa_cons (pe_op op_sub (pv 3) pe_int) pa_nil)))) (pa_cons (pe_op op_fdivN (pv 3) pe_int) pa_nil)))))) pa_nil))))
    (pss_cons (ps_set (i := 6) sc_spoilt.nd rfl (by first | exact Or.inl rfl | exact Or.inr rfl) (pe_ix (oIxK K) (pv 2) (pv 5) (fun _ _ => rfl)))
    (pss_cons (ps_set (i := 7) sc_spoilt.nd rfl (by first | exact Or.inl rfl | exact Or.inr rfl) (pe_c c_take hr (by decide) (by rfl) (pa_cons (pv 0) (pa_cons pe_int pa_nil))))
    (pss_one (ps_if (PW.pt (pw_or (pt_cmpR (oEqK K hu64) (pv 6) (pe_tup pa_nil) (nomark _)) (pw_or1 (pt_cmpR (oEqK K hu64) (pv 7) pe_int (nomark _)))))
    (pss_one (ps_asg (pe_c c_pick hr (by decide) (by rfl) (pa_cons (pv 0) (pa_cons (pe_lst (pa_cons (pe_tup pa_nil) (pa_cons (pe_tup (pa_cons (pe_op (oAddK K) pe_int (pe_c c_take hr (by decide) (by rfl) (pa_cons (pv 0) (pa_cons pe_int pa_nil)))) (pa_cons (pe_op (oAddK K) pe_int (pe_c c_take hr (by decide) (by rfl) (pa_cons (pv 0) (pa_cons pe_int pa_nil)))) (pa_cons (pe_op op_modN (pe_callTy cInt (by rfl) T.int (by decide +kernel) (pa_cons (pv 5) pa_nil)) (pv 3)) (pa_cons (pe_c c_row hr (by decide) (by rfl) (pa_cons (pv 0) (pa_cons pe_int (pa_cons pe_int pa_nil)))) pa_nil))))) pa_nil))) pa_nil))) (pg_sub (pv 2) (pv 5) set_list)))
    (pss_one (ps_if (pt_cmpR (oLtK K hu64) (pv 7) pe_int (nomark _))
    (pss_one (ps_asg (pe_tup (pa_cons (pe_ix (oIxK K) (pv 6) pe_int (fun _ _ => rfl)) (pa_cons (pe_callB (call_max2 rfl) (by rfl) T.max (by decide +kernel) (pa_cons pe_int (pa_cons (pe_op (oAddK K) (pe_ix (oIxK K) (pv 6) pe_int (fun _ _ => rfl)) (pe_c c_pick hr (by decide) (by rfl) (pa_cons (pv 0) (pa_cons (pe_lst (pa_cons (pe_un un_neg pe_int) (pa_cons pe_int (pa_cons pe_int pa_nil)))) pa_nil)))) pa_nil))) (pa_cons (pe_ix (oIxK K) (pv 6) pe_int (fun _ _ => rfl)) (pa_cons (pe_ix (oIxK K) (pv 6) pe_int (fun _ _ => rfl)) pa_nil))))) (pg_sub (pv 2) (pv 5) set_list)))
    (pss_one (ps_if (pt_cmpR (oLtK K hu64) (pv 7) pe_int (nomark _))
    (pss_one (ps_asg (pe_tup (pa_cons (pe_callB (call_max2 rfl) (by rfl) T.max (by decide +kernel) (pa_cons pe_int (pa_cons (pe_op (oAddK K) (pe_ix (oIxK K) (pv 6) pe_int (fun _ _ => rfl)) (pe_c c_pick hr (by decide) (by rfl) (pa_cons (pv 0) (pa_cons (pe_lst (pa_cons (pe_un un_neg pe_int) (pa_cons pe_int (pa_cons pe_int pa_nil)))) pa_nil)))) pa_nil))) (pa_cons (pe_ix (oIxK K) (pv 6) pe_int (fun _ _ => rfl)) (pa_cons (pe_ix (oIxK K) (pv 6) pe_int (fun _ _ => rfl)) (pa_cons (pe_ix (oIxK K) (pv 6) pe_int (fun _ _ => rfl)) pa_nil))))) (pg_sub (pv 2) (pv 5) set_list)))
    (pss_one (ps_if (pt_cmpR (oEqK K hu64) (pv 7) pe_int (nomark _))
    (pss_one (ps_asg (pe_tup (pa_cons (pe_ix (oIxK K) (pv 6) pe_int (fun _ _ => rfl)) (pa_cons (pe_ix (oIxK K) (pv 6) pe_int (fun _ _ => rfl)) (pa_cons (pe_op (oAddK K) (pe_ix (oIxK K) (pv 6) pe_int (fun _ _ => rfl)) pe_int) (pa_cons (pe_ix (oIxK K) (pv 6) pe_int (fun _ _ => rfl)) pa_nil))))) (pg_sub (pv 2) (pv 5) set_list)))
    (pss_one (ps_asg (pe_ix (oIxK K) (pv 2) (pe_c c_take hr (by decide) (by rfl) (pa_cons (pv 0) (pa_cons (pe_callB cLen (by rfl) T.len (by decide +kernel) (pa_cons (pv 2) pa_nil)) pa_nil))) (fun _ _ => rfl)) (pg_sub (pv 2) (pv 5) set_list)))))))))))))))
    (pss_one (ps_ret (pv 2))))), ?_⟩
    try dsimp only [cxOf]
    have lx : xs.length = 2 * M := by rw [wl.len, List.length_map, hS]
    walk_at "y"
    refine x_lstl el fun p H1 e1 n1 h1 => ?_
    walk_at "y"
    refine x_lenl (e1 _ _ el) ?_
    walk_at "y"
    refine x_iC (cdiv2 _) ?_
    rw [lx, fdiv2, show 2 * M / 2 = M by omega]
    have r1 : RS K H b p S M H1 := ⟨e1.go, hb.go e1.go (S := []) (by simp), n1, box_ne hb, ⟨xs, h1, wl.ex e1⟩, hS, so⟩
    walk_at "y"
    refine ⟨b, 4, rfl, r1.bx, by decide, by decide, fun R H2 hR g2 hb2 => ?_⟩
    have r2 := r1.box g2 hb2
    walk_at "y"
    refine y_forR R (fun i σ' H' => ∃ (S : List Slot) (o4 o5 o6 o7 : Option V), σ' = [some (.ref b), some (.ref l), some (.ref p), some (.int (M : Int)), o4, o5, o6, o7] ∧ RS K H b p S M H') (by omega) ⟨S, _, _, _, _, rfl, r2⟩ (fun i σ' H3 hi pp => ?_) fun σ' H3 pp => ?_
    · obtain ⟨S, o4, o5, o6, o7, rfl, r3⟩ := pp
      obtain ⟨ys, ey, wy⟩ := r3.at_
      have ly : ys.length = 2 * M := by rw [wy.len, List.length_map, r3.len]
      walk_at "y"
      refine x_lenl ey ?_
      walk_at "y"
      refine ⟨b, ys.length, rfl, r3.bx, by omega, by omega, fun t4 H4 ht4 g4 hb4 => ?_⟩
      have r4 := r3.box g4 hb4
      walk_at "y"
      rw [show ((M : Int) - 1) = ((M - 1 : Nat) : Int) from by omega]
      refine ⟨b, M - 1, rfl, r4.bx, by omega, by omega, fun t5 H5 ht5 g5 hb5 => ?_⟩
      have r5 := r4.box g5 hb5
      walk_at "y"
      refine x_iC (cdiv2 _) ?_
      rw [fdiv2]
      walk_at "y"
      refine x_mkl fun p6 H6 e6 n6 h6 => ?_
      have r6 := r5.ex e6
      have nb6 : b ≠ p6 := fun z => box_ne r5.bx (by rw [z]; exact n6)
      walk_at "y"
      refine ⟨b, p6, _, rfl, r6.bx, h6, nb6, by simp, by simp, fun ix x7 H7 hx7 g7 hb7 => ?_⟩
      have r7 := r6.box g7 hb7
      obtain ⟨pl, rfl, hpl⟩ : ∃ pl : Nat, x7 = .int (pl : Int) ∧ pl < 2 * M := by
        match ix with
        | 0 => cases hx7; exact ⟨0, rfl, by omega⟩
        | 1 => cases hx7; exact ⟨M, rfl, by omega⟩
        | 2 => cases hx7; exact ⟨t4, rfl, by omega⟩
        | 3 => cases hx7; exact ⟨1 + t5, rfl, by omega⟩
        | 4 => cases hx7; exact ⟨M / 2, rfl, by omega⟩
        | _ + 5 => cases hx7
      obtain ⟨ys7, ey7, wy7⟩ := r7.at_
      obtain ⟨s, hs⟩ : ∃ s, S[pl]? = some s := ⟨_, List.getElem?_eq_getElem (by rw [r7.len]; exact hpl)⟩
      obtain ⟨v, hv, wv⟩ := wy7.getD (slot_at hs)
      have sok : SlotOk s := r7.ok s (List.mem_of_getElem? hs)
      walk_at "y"
      refine x_ixl ey7 rfl hv ?_
      walk_at "y"
      refine ⟨b, 7, rfl, r7.bx, by decide, by decide, fun kd H8 hkd g8 hb8 => ?_⟩
      have r8 := r7.box g8 hb8
      have wv8 := wv.go g8 (lay_slot sok).to
      have fin : ∀ (s' : Slot) (u : V) (H9 : Hp), RS K H b p S M H9 → SlotOk s' → Wt K H9 u (slD s') → ∀ N : L2.St → Hp → Prop, (∀ H', RS K H b p (S.set pl s') M H' → N [some (.ref b), some (.ref l), some (.ref p), some (.int (M : Int)), some (.int (i : Int)), some (.int (pl : Int)), some v, some (.int (kd : Int))] H') →
          rSetL (.ref p) (.int (pl : Int)) u H9 (fun H3 => N [some (.ref b), some (.ref l), some (.ref p), some (.int (M : Int)), some (.int (i : Int)), some (.int (pl : Int)), some v, some (.int (kd : Int))] H3) := fun s' u H9 r9 so' wu N hN => by
        obtain ⟨zs, ez, wz⟩ := r9.at_
        have lz : zs.length = 2 * M := by rw [wz.len, List.length_map, r9.len]
        exact x_setl ez rfl (by omega) fun H' g h => hN H' (r9.set so' wu ez wz g h)
      walk_at "y1"
      dsimp only
      refine x_ifInv (fun br H9 => RS K H b p S M H9 ∧ Wt K H9 v (slD s) ∧ (br = false → ∃ e, s = some e)) (fun br H9 I9 => ?_) (fun Qq key => ?_)
      · obtain ⟨r9, wv9, ne⟩ := I9
        cases br with
        | true =>
          refine x_ite1 ?_
          walk_at "y"
          refine x_mkt (K := K) .nil fun u1 H10 e10 w10 => ?_
          have r10 := r9.ex e10
          walk_at "y"
          refine ⟨b, 3, rfl, r10.bx, by decide, by decide, fun t11 H11 ht11 g11 hb11 => ?_⟩
          have r11 := r10.box g11 hb11
          walk_at "y"
          refine ⟨b, 3, rfl, r11.bx, by decide, by decide, fun t12 H12 ht12 g12 hb12 => ?_⟩
          have r12 := r11.box g12 hb12
          walk_at "y"
          refine x_iC (show (M : Int) ≠ 0 by omega) ?_
          obtain ⟨md, hmd, hme⟩ := fmod_nat (pl : Int) (show 0 < M by omega)
          rw [hme]
          walk_at "y"
          refine ⟨b, 2, 3, rfl, r12.bx, by decide, by decide, by decide, fun y13 p13 H13 g13 hb13 wy13 hp13 => ?_⟩
          have r13 := r12.box g13 hb13
          walk_at "y"
          rw [show ((1 : Int) + (t11 : Int)) = ((1 + t11 : Nat) : Int) from by omega, show ((1 : Int) + (t12 : Int)) = ((1 + t12 : Nat) : Int) from by omega]
          refine x_mkt (.cons (.int _) (.cons (.int _) (.cons (.int _) (.cons wy13 .nil)))) fun u14 H14 e14 w14 => ?_
          have r14 := r13.ex e14
          have w14 : Wt K H14 u14 (slD (some ⟨1 + t11, 1 + t12, md, p13⟩)) := w14
          have w1 : Wt K H14 u1 (slD none) := ((w10.go g11 rfl).go g12 rfl |>.go g13 rfl).ex e14
          walk_at "y"
          refine x_mkl fun p15 H15 e15 n15 h15 => ?_
          have r15 := r14.ex e15
          have nb15 : b ≠ p15 := fun z => box_ne r14.bx (by rw [z]; exact n15)
          walk_at "y"
          refine ⟨b, p15, _, rfl, r15.bx, h15, nb15, by simp, by simp, fun iz xz H16 hxz g16 hb16 => ?_⟩
          have r16 := r15.box g16 hb16
          obtain ⟨s', so', ws'⟩ : ∃ s', SlotOk s' ∧ Wt K H16 xz (slD s') := by
            match iz with
            | 0 => cases hxz; exact ⟨none, (fun e he => by cases he), (w1.ex e15).go g16 rfl⟩
            | 1 => cases hxz; exact ⟨some ⟨1 + t11, 1 + t12, md, p13⟩, (fun e he => by cases he; exact hp13), (w14.ex e15).go g16 (lay_ent (e := ⟨_, _, _, p13⟩) hp13).to⟩
            | _ + 2 => cases hxz
          walk_at "y"
          exact fin s' xz H16 r16 so' ws' _ fun H' r' => ⟨_, _, _, _, _, rfl, r'⟩
        | false =>
          refine x_ite0 ?_
          obtain ⟨e, rfl⟩ := ne rfl
          have pok : PageOk e.p := sok e rfl
          have rdI : ∀ {H' : Hp} {Q' : VK} (n : Nat) (z : Nat), Wt K H' v (entD e) → ([PyData.int e.g, .int e.l, .int e.n, pageD e.p] : List PyData)[n]? = some (.int (z : Int)) → Q' (.int (z : Int)) H' → rIxU K v (.int (n : Int)) H' Q' := fun n z wv hz q' => x_ixd (n := n) (d := .int (z : Int)) wv rfl hz fun u wu => by cases wu; exact q'
          have mk : ∀ {H' : Hp} {Q' : VK} (g' l' n' : Nat) (up : V), RS K H b p S M H' → Wt K H' up (pageD e.p) → (∀ u H2, RS K H b p S M H2 → Wt K H2 u (slD (some ⟨g', l', n', e.p⟩)) → Q' u H2) → mkT [.int (g' : Int), .int (l' : Int), .int (n' : Int), up] H' Q' := fun g' l' n' up r' wp k =>
            x_mkt (.cons (.int _) (.cons (.int _) (.cons (.int _) (.cons wp .nil)))) fun u H2 e2 wu => k u H2 (r'.ex e2) wu
          have sok' : ∀ g' l' n', SlotOk (some ⟨g', l', n', e.p⟩) := fun g' l' n' x hx => by cases hx; exact pok
          walk_at "y"
          split
          · skip
            walk_at "y"
            refine rdI 0 e.g wv9 rfl ?_
            walk_at "y"
            refine rdI 1 e.l wv9 rfl ?_
            walk_at "y"
            refine x_mkl fun pa Ha ea na ha => ?_
            have ra := r9.ex ea
            have nba : b ≠ pa := fun z => box_ne r9.bx (by rw [z]; exact na)
            walk_at "y"
            refine ⟨b, pa, _, rfl, ra.bx, ha, nba, by simp, by simp, fun iz xz Hb hxz gb hbb => ?_⟩
            have rb := ra.box gb hbb
            have wb := (wv9.ex ea).go gb (lay_ent pok).to
            obtain ⟨dz, rfl⟩ : ∃ dz : Int, xz = .int dz := by
              match iz with
              | 0 => cases hxz; exact ⟨_, rfl⟩
              | 1 => cases hxz; exact ⟨_, rfl⟩
              | 2 => cases hxz; exact ⟨_, rfl⟩
              | _ + 3 => cases hxz
            walk_at "y"
            refine ⟨_, _, rfl, ?_⟩
            obtain ⟨n', hn'⟩ : ∃ n' : Nat, (if (e.l : Int) + dz > 0 then (e.l : Int) + dz else 0) = (n' : Int) := ⟨(if (e.l : Int) + dz > 0 then (e.l : Int) + dz else 0).toNat, by split <;> omega⟩
            rw [hn']
            walk_at "y"
            refine rdI 2 e.n wb rfl ?_
            walk_at "y"
            refine x_ixd (n := 3) (d := pageD e.p) wb rfl rfl fun up wup => ?_
            walk_at "y"
            refine mk e.g n' e.n up rb wup fun u Hc rc wu => ?_
            walk_at "y"
            exact fin _ u Hc rc (sok' _ _ _) wu _ fun H' r' => ⟨_, _, _, _, _, rfl, r'⟩
          · walk_at "y"
            split
            · skip
              walk_at "y"
              refine rdI 0 e.g wv9 rfl ?_
              walk_at "y"
              refine x_mkl fun pa Ha ea na ha => ?_
              have ra := r9.ex ea
              have nba : b ≠ pa := fun z => box_ne r9.bx (by rw [z]; exact na)
              walk_at "y"
              refine ⟨b, pa, _, rfl, ra.bx, ha, nba, by simp, by simp, fun iz xz Hb hxz gb hbb => ?_⟩
              have rb := ra.box gb hbb
              have wb := (wv9.ex ea).go gb (lay_ent pok).to
              obtain ⟨dz, rfl⟩ : ∃ dz : Int, xz = .int dz := by
                match iz with
                | 0 => cases hxz; exact ⟨_, rfl⟩
                | 1 => cases hxz; exact ⟨_, rfl⟩
                | 2 => cases hxz; exact ⟨_, rfl⟩
                | _ + 3 => cases hxz
              walk_at "y"
              refine ⟨_, _, rfl, ?_⟩
              obtain ⟨n', hn'⟩ : ∃ n' : Nat, (if (e.g : Int) + dz > 0 then (e.g : Int) + dz else 0) = (n' : Int) := ⟨(if (e.g : Int) + dz > 0 then (e.g : Int) + dz else 0).toNat, by split <;> omega⟩
              rw [hn']
              walk_at "y"
              refine rdI 1 e.l wb rfl ?_
              walk_at "y"
              refine rdI 2 e.n wb rfl ?_
              walk_at "y"
              refine x_ixd (n := 3) (d := pageD e.p) wb rfl rfl fun up wup => ?_
              walk_at "y"
              refine mk n' e.l e.n up rb wup fun u Hc rc wu => ?_
              walk_at "y"
              exact fin _ u Hc rc (sok' _ _ _) wu _ fun H' r' => ⟨_, _, _, _, _, rfl, r'⟩
            · walk_at "y"
              split
              · skip
                walk_at "y"
                refine rdI 0 e.g wv9 rfl ?_
                walk_at "y"
                refine rdI 1 e.l wv9 rfl ?_
                walk_at "y"
                refine rdI 2 e.n wv9 rfl ?_
                walk_at "y"
                rw [show ((e.n : Int) + 1) = ((e.n + 1 : Nat) : Int) from by omega]
                refine x_ixd (n := 3) (d := pageD e.p) wv9 rfl rfl fun up wup => ?_
                walk_at "y"
                refine mk e.g e.l (e.n + 1) up r9 wup fun u Hc rc wu => ?_
                walk_at "y"
                exact fin _ u Hc rc (sok' _ _ _) wu _ fun H' r' => ⟨_, _, _, _, _, rfl, r'⟩
              · skip
                walk_at "y"
                obtain ⟨ysa, eya, wya⟩ := r9.at_
                have lya : ysa.length = 2 * M := by rw [wya.len, List.length_map, r9.len]
                refine x_lenl eya ?_
                walk_at "y"
                refine ⟨b, ysa.length, rfl, r9.bx, by omega, by omega, fun tz Hb htz gb hbb => ?_⟩
                have rb := r9.box gb hbb
                obtain ⟨ysb, eyb, wyb⟩ := rb.at_
                obtain ⟨s2, hs2⟩ : ∃ s2, S[tz]? = some s2 := ⟨_, List.getElem?_eq_getElem (by rw [rb.len]; omega)⟩
                obtain ⟨v2, hv2, wv2⟩ := wyb.getD (slot_at hs2)
                refine x_ixl eyb rfl hv2 ?_
                walk_at "y"
                exact fin s2 v2 Hb rb (rb.ok s2 (List.mem_of_getElem? hs2)) wv2 _ fun H' r' => ⟨_, _, _, _, _, rfl, r'⟩
      · walk_at "y"
        refine x_mkr fun u9 H9 e9 n9 h9 => ?_
        refine slot_eq (wv8.ex e9) h9 (.inr (lay_slot sok).shaped) ?_
        have r9 := r8.ex e9
        cases hs' : PyData.eqv (slD s) (.tuple []) with
        | true =>
          walk_at "y"
          exact key true H9 ⟨r9, wv8.ex e9, fun z => by cases z⟩
        | false =>
          have ne : ∃ e, s = some e := by
            cases s with
            | none => cases hs'
            | some e => exact ⟨e, rfl⟩
          walk_at "y"
          exact key _ H9 ⟨r9, wv8.ex e9, fun _ => ne⟩
    · obtain ⟨S, o4, o5, o6, o7, rfl, r3⟩ := pp
      obtain ⟨ys, ey, wy⟩ := r3.at_
      walk_at "y"
      exact q p ys S H3 r3.g r3.bx r3.fr ey wy r3.len r3.ok
end
end Y
/-! part F2 -/
/-! Whole halves. -/
namespace Y
open PySem LamX L2
local macro_rules | `(tactic| walk_at "y1") => `(tactic| (first
  | (with_reducible refine x_seq ?_) | (with_reducible refine x_asg ?_) | (with_reducible refine x_name ?_) | (with_reducible refine x_drop ?_) | (with_reducible refine x_ret ?_) | (with_reducible refine x_retN ?_)
  | (with_reducible refine x_next ?_) | (with_reducible refine x_brk ?_) | (with_reducible refine x_ifS ?_)
  | (with_reducible refine x_c ?_) | (with_reducible refine x_op ?_) | (with_reducible refine x_un ?_) | (with_reducible refine x_cb ?_) | (with_reducible refine x_cons ?_) | (with_reducible refine x_nil ?_)
  | (with_reducible refine x_call ?_) | (with_reducible refine x_tup ?_) | (with_reducible refine x_lst ?_) | (with_reducible refine x_sl ?_) | (with_reducible refine x_nopart ?_) | (with_reducible refine x_part ?_)
  | (with_reducible refine x_andV ?_) | (with_reducible refine x_orV ?_) | (with_reducible refine x_notV ?_) | (with_reducible refine x_if ?_) | (with_reducible refine x_test ?_) | (with_reducible refine x_tb ?_)
  | (with_reducible refine x_and ?_) | (with_reducible refine x_or ?_) | (with_reducible refine x_not ?_) | (with_reducible refine x_chain ?_) | (with_reducible refine x_exbl ?_) | (with_reducible refine x_exint ?_)
  | (with_reducible refine x_fld ?_) | (with_reducible refine x_sfld ?_) | (with_reducible refine x_par ?_) | (with_reducible refine x_par3 ?_) | (with_reducible refine x_dget ?_) | (with_reducible refine x_dput ?_)
  | (with_reducible refine x_bm ?_) | (with_reducible refine x_bm0 ?_) | (with_reducible refine x_pair ?_) | (with_reducible refine x_tri ?_) | (with_reducible refine x_int ?_) | (with_reducible refine x_intb ?_) | (with_reducible refine x_abs ?_) | (with_reducible refine x_isN ?_) | (with_reducible refine x_notN ?_) | (with_reducible refine x_meth ?_) | (with_reducible refine x_make ?_)
  | (with_reducible refine x_ite1 ?_) | (with_reducible refine x_ite0 ?_)
  | (with_reducible refine x_addi ?_) | (with_reducible refine x_neg ?_) | (with_reducible refine x_i0 ?_) | (with_reducible refine x_eqi ?_) | (with_reducible refine x_eqs ?_) | (with_reducible refine x_eqb ?_) | (with_reducible refine x_nei ?_) | (with_reducible refine x_lti ?_)
  | (with_reducible refine x_forL ?_) | (with_reducible refine x_forT ?_) | (with_reducible refine x_forR ?_) | (with_reducible refine x_forR2 ?_) | (with_reducible refine x_lcL ?_) | (with_reducible refine x_lcT ?_) | (with_reducible refine x_lcR ?_)
  | (with_reducible refine x_yes ?_) | (with_reducible refine x_pcons ?_) | (with_reducible refine x_pnil ?_) | (with_reducible refine x_gcons ?_) | (with_reducible refine x_gnil ?_) | (with_reducible refine x_gattr ?_) | (with_reducible refine x_raise ?_) | (with_reducible refine x_gsub ?_) | (with_reducible refine x_fldaug ?_) | (with_reducible refine x_radd ?_) | (with_reducible refine x_ipi ?_) | ((with_reducible refine x_aug (x := ?vv) ?hh ?qq); (case hh => exact rfl))
  | ((with_reducible refine x_iteA ?hc ?q); (case hc => exact rfl)) | ((with_reducible refine x_iteB ?hc ?q); (case hc => exact rfl))
  | ((with_reducible refine x_var (v := ?vv) ?hh ?qq); (case hh => exact rfl))
  | ((with_reducible refine r_isInt (d := ?dd) ?hh ?qq); (case hh => assumption)) | ((with_reducible refine r_isBool (d := ?dd) ?hh ?qq); (case hh => assumption)) | ((with_reducible refine r_isTup (d := ?dd) ?hh ?qq); (case hh => assumption))
  | ((with_reducible refine r_isStr (d := ?dd) ?hh ?qq); (case hh => assumption)) | ((with_reducible refine r_isLst (d := ?dd) ?hh ?qq); (case hh => assumption))))
local macro_rules | `(tactic| walk_at "y") => `(tactic| (repeat (walk_at "y1")))
section
variable {P : Program} {w : World} {K : PySem.W.Frag} {mg : Str → Option Value} {base : Heap}
/-- slots at p that grow, made behind H0 -/
structure GS (K : PySem.W.Frag) (H0 : Hp) (b p : Addr) (n : Nat) (H : Hp) : Prop where
  g : Go [b] H0 H
  bx : BoxAt b H
  fr : H0 p = none
  b0 : H0 b ≠ none
  at_ : ∃ (ys : List V) (S : List Slot), H p = some (.lst ys) ∧ WtL K H ys (S.map slD) ∧ S.length = n ∧ ∀ s ∈ S, SlotOk s
section
variable {H0 H H' : Hp} {b p : Addr} {n : Nat}
theorem GS.nb (r : GS K H0 b p n H) : b ≠ p := fun z => r.b0 (z ▸ r.fr)
theorem GS.box (r : GS K H0 b p n H) (g : Go [b] H H') (hb : BoxAt b H') : GS K H0 b p n H' := by
  obtain ⟨ys, S, e, w, l, o⟩ := r.at_
  exact ⟨r.g.trans g, hb, r.fr, r.b0, ⟨ys, S, g.keep _ _ (by simp [Ne.symm r.nb]) e, w.go g (sl_to o), l, o⟩⟩
theorem GS.ex (r : GS K H0 b p n H) (e : Ex H H') : GS K H0 b p n H' := r.box e.go (r.bx.go e.go (S := []) (by simp))
end
def spHalves (K : PySem.W.Frag) : Sp := fun vs H Q _ => ∃ (b : Addr) (M : Nat), vs = [.ref b, .int ((2 * M : Nat) : Int)] ∧ BoxAt b H ∧ 2 ≤ M ∧ M ≤ 32 ∧
  ∀ p ys (S' : List Slot) H', Go [b] H H' → BoxAt b H' → H p = none → H' p = some (.lst ys) → WtL K H' ys (S'.map slD) → S'.length = 2 * M → (∀ s ∈ S', SlotOk s) → Q (.ref p) H'
abbrev s_halves : Stmt := top 47
abbrev nms_halves : List Str := ["box", "many", "rows", "size", "one", "half", "generation", "turn", "life", "more", "k"]
theorem sc_halves : FnScope nms_halves ["box", "many"] (defScope s_halves) := ⟨rfl, rfl, rfl, by decide +kernel, rfl, by decide +kernel, by decide +kernel⟩
theorem ok_halves {f : Addr} {fd : FuncData} (F : Fun K "_law_halves" "_law_halves" s_halves f fd) (hm : mg "_law_halves" = some (.ref f)) (b : Binds K fd ["box", "many"] []) (T : Bt mg)
    (c_row : Cal P w K mg base 4 "_law_row" (spRowL K)) (c_pick : Cal P w K mg base 2 "_law_pick" spPick) (c_take : Cal P w K mg base 1 "_law_take" spTake) :
    Cal P w K mg base 5 "_law_halves" (spHalves K) := by
  refine cal_of F hm b sc_halves (fun vs H Q E h => ?_) (fun cdv A outer s H vs Q E hr h => ?_)
  · obtain ⟨b, M, rfl, _⟩ := h
    rfl
  · obtain ⟨b, M, rfl, hb, m1, m2, q⟩ := h
    have hu64 := pass_hu64 hr
    have hu1 : (A.deeper (PyProof.Rows.envOfC "_law_halves" (defScope s_halves) s.heap.objs.size f cdv)).units + 1 < cLine := by have := hr.un; omega
    refine ⟨_, (pss_cons (ps_par rfl sc_halves.nd (i := 2) (j := 3) rfl rfl (by decide) rfl rfl (pa_cons (pe_lst pa_nil) (pa_cons (pe_op op_fdivN (pv 1) pe_int) pa_nil)) (by rfl))
    (pss_cons (ps_set (i := 4) sc_halves.nd rfl (by first | exact Or.inl rfl | exact Or.inr rfl) (pe_c c_take hr (by decide) (by rfl) (pa_cons (pv 0) (pa_cons pe_int pa_nil))))
    (pss_cons (ps_for (passes_of rfl) rfl (pi_range1 (by rfl) T.range (pa_cons pe_int pa_nil)) (pg_name (i := 5) sc_halves.nd rfl (by first | exact Or.inl rfl | exact Or.inr rfl))
    (pss_cons (ps_par3 rfl sc_halves.nd (i := 6) (j := 7) (l := 8) rfl rfl rfl (by decide) (by decide) (by decide) rfl rfl rfl (pa_cons (pe_op (oAddK K) (pv 4) (pe_c c_take hr (by decide) (by rfl) (pa_cons (pv 0) (pa_cons pe_int pa_nil)))) (pa_cons (pe_c c_take hr (by decide) (by rfl) (pa_cons (pv 0) (pa_cons (pe_op (oAddK K) (pv 3) pe_int) pa_nil))) (pa_cons (pe_op (oAddK K) pe_int (pe_c c_take hr (by decide) (by rfl) (pa_cons (pv 0) (pa_cons pe_int pa_nil)))) pa_nil))) (by rfl))
    (pss_cons (ps_set (i := 9) sc_halves.nd rfl (by first | exact Or.inl rfl | exact Or.inr rfl) (pe_c c_pick hr (by decide) (by rfl) (pa_cons (pv 0) (pa_cons (pe_lst (pa_cons (pe_un un_neg pe_int) (pa_cons pe_int (pa_cons pe_int (pa_cons pe_int pa_nil))))) pa_nil))))
    (pss_one (ps_for (passes_of rfl) rfl (pi_range1 (by rfl) T.range (pa_cons (pv 3) pa_nil)) (pg_name (i := 10) sc_halves.nd rfl (by first | exact Or.inl rfl | exact Or.inr rfl))
    (pss_one (ps_expr (pe_bm PySem.F.plainAttrs_list PySem.F.slot_list_append PySem.F.type_list_append mt_append (pv 2) (pa_cons (pe_tup (pa_cons (pv 6) (pa_cons (pe_ifExp (pt_cmpR op_ge (pv 10) (pv 7) (nomark _)) (pe_op (oAddK K) (pv 8) (pv 9)) (pv 8)) (pa_cons (pv 10) (pa_cons (pe_c c_row hr (by decide) (by rfl) (pa_cons (pv 0) (pa_cons pe_int (pa_cons pe_int pa_nil)))) pa_nil))))) pa_nil)))))))))
    (pss_one (ps_ret (pv 2)))))), ?_⟩
    try dsimp only [cxOf]
    walk_at "y"
    refine x_mkl (vs := []) fun p H1 e1 n1 h1 => ?_
    have r1 : GS K H b p 0 H1 := ⟨e1.go, hb.go e1.go (S := []) (by simp), n1, box_ne hb, ⟨[], [], h1, .nil, rfl, by simp⟩⟩
    walk_at "y"
    refine x_iC (cdiv2 _) ?_
    rw [fdiv2, show 2 * M / 2 = M by omega]
    walk_at "y"
    refine ⟨b, 3, rfl, r1.bx, by decide, by decide, fun one H2 hone g2 hb2 => ?_⟩
    have r2 := r1.box g2 hb2
    walk_at "y"
    rw [show (2 : Int) = ((2 : Nat) : Int) from rfl]
    refine y_forR 2 (fun i σ' H' => ∃ (o5 o6 o7 o8 o9 o10 : Option V), σ' = [some (.ref b), some (.int ((2 * M : Nat) : Int)), some (.ref p), some (.int (M : Int)), some (.int (one : Int)), o5, o6, o7, o8, o9, o10] ∧ GS K H b p (i * M) H') (by decide) ⟨_, _, _, _, _, _, rfl, by rw [Nat.zero_mul]; exact r2⟩ (fun i σ' H3 hi pp => ?_) fun σ' H3 pp => ?_
    · obtain ⟨o5, o6, o7, o8, o9, o10, rfl, r3⟩ := pp
      walk_at "y"
      refine ⟨b, 3, rfl, r3.bx, by decide, by decide, fun t4 H4 ht4 g4 hb4 => ?_⟩
      have r4 := r3.box g4 hb4
      walk_at "y"
      rw [show ((M : Int) + 1) = ((M + 1 : Nat) : Int) from by omega]
      refine ⟨b, M + 1, rfl, r4.bx, by omega, by omega, fun t5 H5 ht5 g5 hb5 => ?_⟩
      have r5 := r4.box g5 hb5
      walk_at "y"
      refine ⟨b, 3, rfl, r5.bx, by decide, by decide, fun t6 H6 ht6 g6 hb6 => ?_⟩
      have r6 := r5.box g6 hb6
      walk_at "y"
      refine x_mkl fun pa Ha ea na ha => ?_
      have ra := r6.ex ea
      have nba : b ≠ pa := fun z => box_ne r6.bx (by rw [z]; exact na)
      walk_at "y"
      refine ⟨b, pa, _, rfl, ra.bx, ha, nba, by simp, by simp, fun iz xz Hb hxz gb hbb => ?_⟩
      have rb := ra.box gb hbb
      obtain ⟨dz, rfl, hdz⟩ : ∃ dz : Int, xz = .int dz ∧ -1 ≤ dz := by
        match iz with
        | 0 => cases hxz; exact ⟨_, rfl, by decide⟩
        | 1 => cases hxz; exact ⟨_, rfl, by decide⟩
        | 2 => cases hxz; exact ⟨_, rfl, by decide⟩
        | 3 => cases hxz; exact ⟨_, rfl, by decide⟩
        | _ + 4 => cases hxz
      walk_at "y"
      refine y_forR M (fun k σ' H' => ∃ (o10 : Option V), σ' = [some (.ref b), some (.int ((2 * M : Nat) : Int)), some (.ref p), some (.int (M : Int)), some (.int (one : Int)), some (.int (i : Int)), some (.int ((one : Int) + (t4 : Int))), some (.int (t5 : Int)), some (.int (1 + (t6 : Int))), some (.int dz), o10] ∧ GS K H b p (i * M + k) H') (by omega) ⟨_, rfl, rb⟩ (fun k σ' H7 hk pp => ?_) fun σ' H7 pp => ?_
      · obtain ⟨o10, rfl, r7⟩ := pp
        obtain ⟨ys, S, ey, wy, ly, oy⟩ := r7.at_
        have lys : ys.length ≤ 64 := by
          rw [wy.len, List.length_map, ly]
          have : i * M ≤ 1 * M := Nat.mul_le_mul_right _ (by omega)
          omega
        walk_at "y"
        refine ⟨x_tyl ey, ?_⟩
        walk_at "y"
        split
        · walk_at "y"
          obtain ⟨l', hl'⟩ : ∃ l' : Nat, (1 : Int) + (t6 : Int) + dz = (l' : Int) := ⟨((1 : Int) + (t6 : Int) + dz).toNat, by omega⟩
          rw [hl']
          walk_at "y"
          refine ⟨b, 1, 6, rfl, r7.bx, by decide, by decide, by decide, fun y pg H8 g8 hb8 wy8 hp8 => ?_⟩
          have r8 := r7.box g8 hb8
          walk_at "y"
          rw [show ((one : Int) + (t4 : Int)) = ((one + t4 : Nat) : Int) from by omega]
          refine x_mkt (.cons (.int _) (.cons (.int _) (.cons (.int _) (.cons wy8 .nil)))) fun u H9 e9 wu => ?_
          have wu : Wt K H9 u (slD (some ⟨one + t4, l', k, pg⟩)) := wu
          have r9 := r8.ex e9
          obtain ⟨ys9, S9, ey9, wy9, ly9, oy9⟩ := r9.at_
          have lys9 : ys9.length ≤ 64 := by
            rw [wy9.len, List.length_map, ly9]
            have : i * M ≤ 1 * M := Nat.mul_le_mul_right _ (by omega)
            omega
          walk_at "y"
          refine x_append ey9 (by omega) fun H10 g10 h10 => ?_
          have so : ∀ s ∈ S9 ++ [some ⟨one + t4, l', k, pg⟩], SlotOk s := fun s hs => by
            rcases List.mem_append.mp hs with z | z
            · exact oy9 s z
            · rw [List.mem_singleton.mp z]; intro e he; cases he; exact hp8
          walk_at "y"
          refine ⟨_, rfl, go_out r9.g g10 fun x hx => .inr (by rw [List.mem_singleton.mp hx]; exact r9.fr), r9.bx.go g10 (by simp [r9.nb]), r9.fr, r9.b0, ⟨_, S9 ++ [some ⟨one + t4, l', k, pg⟩], h10, ?_, by simp [ly9]; omega, so⟩⟩
          have t := sl_to so
          rw [List.map_append] at t ⊢
          exact (wy9.append (.cons wu .nil)).go g10 t
        · walk_at "y"
          obtain ⟨l', hl'⟩ : ∃ l' : Nat, (1 : Int) + (t6 : Int) = (l' : Int) := ⟨1 + t6, by omega⟩
          rw [hl']
          refine ⟨b, 1, 6, rfl, r7.bx, by decide, by decide, by decide, fun y pg H8 g8 hb8 wy8 hp8 => ?_⟩
          have r8 := r7.box g8 hb8
          walk_at "y"
          rw [show ((one : Int) + (t4 : Int)) = ((one + t4 : Nat) : Int) from by omega]
          refine x_mkt (.cons (.int _) (.cons (.int _) (.cons (.int _) (.cons wy8 .nil)))) fun u H9 e9 wu => ?_
          have wu : Wt K H9 u (slD (some ⟨one + t4, l', k, pg⟩)) := wu
          have r9 := r8.ex e9
          obtain ⟨ys9, S9, ey9, wy9, ly9, oy9⟩ := r9.at_
          have lys9 : ys9.length ≤ 64 := by
            rw [wy9.len, List.length_map, ly9]
            have : i * M ≤ 1 * M := Nat.mul_le_mul_right _ (by omega)
            omega
          walk_at "y"
          refine x_append ey9 (by omega) fun H10 g10 h10 => ?_
          have so : ∀ s ∈ S9 ++ [some ⟨one + t4, l', k, pg⟩], SlotOk s := fun s hs => by
            rcases List.mem_append.mp hs with z | z
            · exact oy9 s z
            · rw [List.mem_singleton.mp z]; intro e he; cases he; exact hp8
          walk_at "y"
          refine ⟨_, rfl, go_out r9.g g10 fun x hx => .inr (by rw [List.mem_singleton.mp hx]; exact r9.fr), r9.bx.go g10 (by simp [r9.nb]), r9.fr, r9.b0, ⟨_, S9 ++ [some ⟨one + t4, l', k, pg⟩], h10, ?_, by simp [ly9]; omega, so⟩⟩
          have t := sl_to so
          rw [List.map_append] at t ⊢
          exact (wy9.append (.cons wu .nil)).go g10 t
      · obtain ⟨o10, rfl, r7⟩ := pp
        exact ⟨_, _, _, _, _, _, rfl, by rw [Nat.add_mul, Nat.one_mul]; exact r7⟩
    · obtain ⟨o5, o6, o7, o8, o9, o10, rfl, r3⟩ := pp
      obtain ⟨ys, S, ey, wy, ly, oy⟩ := r3.at_
      walk_at "y"
      exact q p ys S H3 r3.g r3.bx r3.fr ey wy ly oy
end
end Y
/-! part F3 -/
/-! What are no slots. -/
namespace Y
open PySem LamX L2
local macro_rules | `(tactic| walk_at "y1") => `(tactic| (first
  | (with_reducible refine x_seq ?_) | (with_reducible refine x_asg ?_) | (with_reducible refine x_name ?_) | (with_reducible refine x_drop ?_) | (with_reducible refine x_ret ?_) | (with_reducible refine x_retN ?_)
  | (with_reducible refine x_next ?_) | (with_reducible refine x_brk ?_) | (with_reducible refine x_ifS ?_)
  | (with_reducible refine x_c ?_) | (with_reducible refine x_op ?_) | (with_reducible refine x_un ?_) | (with_reducible refine x_cb ?_) | (with_reducible refine x_cons ?_) | (with_reducible refine x_nil ?_)
  | (with_reducible refine x_call ?_) | (with_reducible refine x_tup ?_) | (with_reducible refine x_lst ?_) | (with_reducible refine x_sl ?_) | (with_reducible refine x_nopart ?_) | (with_reducible refine x_part ?_)
  | (with_reducible refine x_andV ?_) | (with_reducible refine x_orV ?_) | (with_reducible refine x_notV ?_) | (with_reducible refine x_if ?_) | (with_reducible refine x_test ?_) | (with_reducible refine x_tb ?_)
  | (with_reducible refine x_and ?_) | (with_reducible refine x_or ?_) | (with_reducible refine x_not ?_) | (with_reducible refine x_chain ?_) | (with_reducible refine x_exbl ?_) | (with_reducible refine x_exint ?_)
  | (with_reducible refine x_fld ?_) | (with_reducible refine x_sfld ?_) | (with_reducible refine x_par ?_) | (with_reducible refine x_par3 ?_) | (with_reducible refine x_dget ?_) | (with_reducible refine x_dput ?_)
  | (with_reducible refine x_bm ?_) | (with_reducible refine x_bm0 ?_) | (with_reducible refine x_pair ?_) | (with_reducible refine x_tri ?_) | (with_reducible refine x_int ?_) | (with_reducible refine x_intb ?_) | (with_reducible refine x_abs ?_) | (with_reducible refine x_isN ?_) | (with_reducible refine x_notN ?_) | (with_reducible refine x_meth ?_) | (with_reducible refine x_make ?_)
  | (with_reducible refine x_ite1 ?_) | (with_reducible refine x_ite0 ?_)
  | (with_reducible refine x_addi ?_) | (with_reducible refine x_neg ?_) | (with_reducible refine x_i0 ?_) | (with_reducible refine x_eqi ?_) | (with_reducible refine x_eqs ?_) | (with_reducible refine x_eqb ?_) | (with_reducible refine x_nei ?_) | (with_reducible refine x_lti ?_)
  | (with_reducible refine x_forL ?_) | (with_reducible refine x_forT ?_) | (with_reducible refine x_forR ?_) | (with_reducible refine x_forR2 ?_) | (with_reducible refine x_lcL ?_) | (with_reducible refine x_lcT ?_) | (with_reducible refine x_lcR ?_)
  | (with_reducible refine x_yes ?_) | (with_reducible refine x_pcons ?_) | (with_reducible refine x_pnil ?_) | (with_reducible refine x_gcons ?_) | (with_reducible refine x_gnil ?_) | (with_reducible refine x_gattr ?_) | (with_reducible refine x_raise ?_) | (with_reducible refine x_gsub ?_) | (with_reducible refine x_fldaug ?_) | (with_reducible refine x_radd ?_) | (with_reducible refine x_ipi ?_) | ((with_reducible refine x_aug (x := ?vv) ?hh ?qq); (case hh => exact rfl))
  | ((with_reducible refine x_iteA ?hc ?q); (case hc => exact rfl)) | ((with_reducible refine x_iteB ?hc ?q); (case hc => exact rfl))
  | ((with_reducible refine x_var (v := ?vv) ?hh ?qq); (case hh => exact rfl))
  | ((with_reducible refine r_isInt (d := ?dd) ?hh ?qq); (case hh => assumption)) | ((with_reducible refine r_isBool (d := ?dd) ?hh ?qq); (case hh => assumption)) | ((with_reducible refine r_isTup (d := ?dd) ?hh ?qq); (case hh => assumption))
  | ((with_reducible refine r_isStr (d := ?dd) ?hh ?qq); (case hh => assumption)) | ((with_reducible refine r_isLst (d := ?dd) ?hh ?qq); (case hh => assumption))))
local macro_rules | `(tactic| walk_at "y") => `(tactic| (repeat (walk_at "y1")))
section
variable {K : PySem.W.Frag} {σ : L2.St} {H : Hp}
theorem ev_toL {te : TE} {ds : List PyData} (n : Nat) {i : Int} (hi : i = (n : Int)) (h : EvD K σ H te (.list ds)) : EvD K σ H (tSl (rSlU K) te tNoPart (tPart (tC (.int i)))) (.list (ds.take n)) := fun H1 e Q q => x_sl (h H1 e _ fun v H2 e2 w => x_nopart (x_part (x_c ⟨i, rfl, by
  cases w with
  | lst ea wa =>
    refine x_sll ea fun p H3 e3 n3 h3 => q _ H3 (e2.trans e3) (.lst h3 ?_)
    have := (wa.cut none (some i)).ex e3
    rw [hi, cut_to] at this
    exact hi ▸ this⟩)))
theorem ev_butLast {te : TE} {ds : List PyData} (h : EvD K σ H te (.list ds)) : EvD K σ H (tSl (rSlU K) te tNoPart (tPart (tUn (rU fun i => .int (-i)) (tC (.int 1))))) (.list (cutD ds none (some (-1)))) := fun H1 e Q q => x_sl (h H1 e _ fun v H2 e2 w => x_nopart (x_part (x_un (x_c (x_neg ⟨_, rfl, by
  cases w with
  | lst ea wa => exact x_sll ea fun p H3 e3 n3 h3 => q _ H3 (e2.trans e3) (.lst h3 ((wa.cut none (some (-1))).ex e3))⟩)))))
theorem ev_mulL {te : TE} {d : PyData} {i : Int} (n : Nat) (hi : i = (n : Int)) (hn : n ≤ 1000) (h : EvD K σ H te (.list [d])) : EvD K σ H (tOp rMulU te (tC (.int i))) (.list (List.replicate n d)) := fun H1 e Q q => x_op (h H1 e _ fun v H2 e2 w => x_c (by
  cases w with
  | @lst a xs _ ea wa =>
    have l1 : xs.length = 1 := wa.len
    refine x_mull ea (by omega) (by rw [l1]; omega) (by omega) fun p H3 e3 n3 h3 => q _ H3 (e2.trans e3) (.lst h3 ?_)
    cases wa with
    | cons w1 wn =>
      cases wn
      rw [hi, Int.toNat_natCast, flat_rep]
      exact (WtL.replicate w1 n).ex e3))
end
/-! ### plain -/
theorem size_no {n : Nat} (h : ¬ SizeOk n) : isSize (n : Int) = false := by
  cases e : isSize (n : Int) with
  | false => rfl
  | true =>
    unfold isSize at e
    simp only [Bool.and_eq_true, decide_eq_true_eq] at e
    exact absurd ⟨by omega, by omega, by omega⟩ h
structure NoSlots (d : PyData) : Prop where
  sd : SlotsSide d
  no : areSlotsD d = false
theorem noSl_list {ds : List PyData} (h : ¬ SizeOk ds.length) : NoSlots (.list ds) := by
  refine ⟨fun es e z => ?_, ?_⟩
  · rcases e with e | e
    · cases e
      rw [size_no h] at z
      cases z
    · cases e
  · show (isSize ds.length && _) = false
    rw [size_no h]
    rfl
theorem noSl_not {d : PyData} (h : isRow d = false) : NoSlots d := by
  refine ⟨fun es e z => ?_, ?_⟩
  · rcases e with e | e
    · rw [e] at h; cases h
    · rw [e] at h; cases h
  · cases d <;> first | rfl | cases h
structure BadSlot1 (d : PyData) : Prop where
  sd : SlotSide d
  no : slotFine d = false
  tr : noTri d = true
/-- what a change of a box alone leaves -/
def Surv (d : PyData) : Prop := tupOnly d = true ∨ d = .dict [] ∨ ∃ L : List Slot, d = .list (L.map slD) ∧ ∀ s ∈ L, SlotOk s
theorem surv_go {K : PySem.W.Frag} {b : Addr} {H H' : Hp} {v : V} {d : PyData} (hb : BoxAt b H) (g : Go [b] H H') (h : Surv d) (w : Wt K H v d) : Wt K H' v d := by
  rcases h with h | rfl | ⟨L, rfl, ho⟩
  · exact w.go g h
  · exact w.aside g (fun s hs => by rw [List.mem_singleton.mp hs]; exact .inl hb) rfl
  · cases w with
    | @lst a xs _ e wa =>
      refine .lst (g.keep _ _ (fun z => ?_) e) (wa.go g (sl_to ho))
      obtain ⟨i, j, k, eb⟩ := hb
      rw [← List.mem_singleton.mp z, e] at eb
      cases eb
      cases L with
      | nil => cases wa
      | cons s L =>
        cases wa with
        | cons w1 _ => cases s <;> cases w1
theorem noSl_set {ds : List PyData} {n : Nat} {d : PyData} (hn : n < ds.length) (hs : ∀ x ∈ ds, SlotSide x) (h : BadSlot1 d) : NoSlots (.list (ds.set n d)) ∧ NoSlots (.tuple (ds.set n d)) := by
  have sd : ∀ x ∈ ds.set n d, SlotSide x := fun x hx => by
    rcases List.mem_or_eq_of_mem_set hx with z | z
    · exact hs x z
    · rw [z]; exact h.sd
  have no : (ds.set n d).all slotFine = false := by
    rw [List.all_eq_false]
    exact ⟨d, List.mem_of_getElem? (List.getElem?_set_self hn), by rw [h.no]; decide⟩
  have no' : (isSize (ds.set n d).length && (ds.set n d).all slotFine) = false := by rw [no, Bool.and_false]
  exact ⟨⟨fun es e z => by rcases e with e | e <;> cases e; exact sd, no'⟩, ⟨fun es e z => by rcases e with e | e <;> cases e; exact sd, no'⟩⟩
/-- odd entries -/
def oddEs (p : Page) : List PyData := [.tuple [.int 1, .int 1, .int 0], .tuple [.int 1, .int 1, .int 0, pageD p, .int 0], .tuple [.int (-1), .int 1, .int 0, pageD p], .tuple [.int 1, .bool true, .int 0, pageD p], .tuple [.int 1, .int 1, .none, pageD p],
  .list [.int 1, .int 1, .int 0, pageD p], .int 5, .none, .tuple [.int 1, .int 1, .str "0", pageD p]]
theorem bad_tup {ds : List PyData} (h : ∀ a b c p, ds = [a, b, c, p] → PageSide p ∧ (isNum a && isNum b && isNum c && isPage p) = false) (hn : ds ≠ []) (t : noTri.noTriL ds = true) : BadSlot1 (.tuple ds) := by
  refine ⟨⟨.inl rfl, fun a b c p e => by cases e; exact (h a b c p rfl).1⟩, ?_, t⟩
  have e1 : PyData.eqv (.tuple ds) (.tuple []) = false := by
    rw [eqv_t0]
    exact decide_eq_false fun z => hn (List.length_eq_zero_iff.mp z)
  unfold slotFine
  rw [e1, Bool.false_or]
  match ds with
  | [] => rfl
  | [_] => rfl
  | [_, _] => rfl
  | [_, _, _] => rfl
  | [a, b, c, p] => exact (h a b c p rfl).2
  | _ :: _ :: _ :: _ :: _ :: _ => rfl
theorem oddEs_bad {p : Page} (hp : PageOk p) : ∀ d ∈ oddEs p, BadSlot1 d := by
  have sp := pageSide_ok hp
  have tp : noTri (pageD p) = true := noTri_of (lay_page hp).to
  intro d hd
  simp only [oddEs, List.mem_cons, List.not_mem_nil, or_false] at hd
  rcases hd with rfl | rfl | rfl | rfl | rfl | rfl | rfl | rfl | rfl
  · exact bad_tup (fun a b c q e => by simp at e) (by simp) rfl
  · exact bad_tup (fun a b c q e => by simp at e) (by simp) (by show (true && (true && (true && (noTri (pageD p) && (true && true))))) = true; rw [tp]; rfl)
  · exact bad_tup (fun a b c q e => by cases e; exact ⟨sp, rfl⟩) (by simp) (by show (true && (true && (true && (noTri (pageD p) && true)))) = true; rw [tp]; rfl)
  · exact bad_tup (fun a b c q e => by cases e; exact ⟨sp, rfl⟩) (by simp) (by show (true && (true && (true && (noTri (pageD p) && true)))) = true; rw [tp]; rfl)
  · exact bad_tup (fun a b c q e => by cases e; exact ⟨sp, rfl⟩) (by simp) (by show (true && (true && (true && (noTri (pageD p) && true)))) = true; rw [tp]; rfl)
  · refine ⟨⟨.inr ?_, fun a b c q e => by cases e⟩, rfl, by show (true && (true && (true && (true && (noTri (pageD p) && true))))) = true; rw [tp]; rfl⟩
    have ly : ∀ x ∈ [PyData.int 1, .int 1, .int 0, pageD p], Lay 5 x := fun x hx => by
      simp only [List.mem_cons, List.not_mem_nil, or_false] at hx
      rcases hx with rfl | rfl | rfl | rfl
      · exact (lay_int _).mono (by decide)
      · exact (lay_int _).mono (by decide)
      · exact (lay_int _).mono (by decide)
      · exact lay_page hp
    unfold SeqAt.shaped
    have h1 : (PyData.list [PyData.int 1, .int 1, .int 0, pageD p]).canLay0 = true := layAll fun d hd => (ly d hd).ly
    have h2 : (PyData.list [PyData.int 1, .int 1, .int 0, pageD p]).depth ≤ 64 := by
      show PyData.depthAll [PyData.int 1, .int 1, .int 0, pageD p] + 1 ≤ 64
      have := depthAll_le (n := 5) fun d hd => (ly d hd).dp
      omega
    rw [h1, decide_eq_true h2]
    rfl
  · exact ⟨⟨.inr rfl, fun a b c q e => by cases e⟩, rfl, rfl⟩
  · exact ⟨⟨.inr rfl, fun a b c q e => by cases e⟩, rfl, rfl⟩
  · exact bad_tup (fun a b c q e => by cases e; exact ⟨sp, rfl⟩) (by simp) (by show (true && (true && (true && (noTri (pageD p) && true)))) = true; rw [tp]; rfl)
theorem cut_but {S : List Slot} : cutD (S.map slD) none (some (-1)) = (S.take (S.length - 1)).map slD := by
  unfold cutD
  have e1 : HT.sIx (S.map slD).length (S.map slD).length (some (-1)) = S.length - 1 := by
    unfold HT.sIx
    simp
    omega
  rw [e1, HT.sIx_none, List.drop_zero, Nat.sub_zero, List.map_take]
/-- lists of slots, but none of a right size -/
def noneLs (S : List Slot) : List (List Slot) := [S.take (S.length - 1), S ++ [none], S.take 2, S.take 3, List.replicate 66 none, List.replicate 2 none]
theorem noneLs_no {S : List Slot} {M : Nat} (hS : S.length = 2 * M) (so : ∀ s ∈ S, SlotOk s) : ∀ L ∈ noneLs S, NoSlots (.list (L.map slD)) ∧ Surv (.list (L.map slD)) := by
  have none_ok : SlotOk none := fun e he => by cases he
  intro L hL
  have key : ∀ L : List Slot, (∀ s ∈ L, SlotOk s) → ¬ SizeOk L.length → NoSlots (.list (L.map slD)) ∧ Surv (.list (L.map slD)) := fun L h1 h2 => ⟨noSl_list (by rw [List.length_map]; exact h2), .inr (.inr ⟨L, rfl, h1⟩)⟩
  simp only [noneLs, List.mem_cons, List.not_mem_nil, or_false] at hL
  rcases hL with rfl | rfl | rfl | rfl | rfl | rfl
  · exact key _ (fun s hs => so s (List.mem_of_mem_take hs)) (fun z => by have z1 := z.1; have := z.2.2; rw [List.length_take] at this z1; omega)
  · refine key _ (fun s hs => ?_) (fun z => by have := z.2.2; rw [List.length_append, List.length_singleton] at this; omega)
    rcases List.mem_append.mp hs with z | z
    · exact so s z
    · rw [List.mem_singleton.mp z]; exact none_ok
  · exact key _ (fun s hs => so s (List.mem_of_mem_take hs)) (fun z => by have := z.1; rw [List.length_take] at this; omega)
  · exact key _ (fun s hs => so s (List.mem_of_mem_take hs)) (fun z => by have := z.1; rw [List.length_take] at this; omega)
  · exact key _ (fun s hs => by rw [(List.mem_replicate.mp hs).2]; exact none_ok) (fun z => absurd z.2.1 (by rw [List.length_replicate]; decide))
  · exact key _ (fun s hs => by rw [(List.mem_replicate.mp hs).2]; exact none_ok) (fun z => by have := z.1; simp at this)
def pgOf : Slot → Page
  | none => []
  | some e => e.p
theorem pgOf_ok {s : Slot} (h : SlotOk s) : PageOk (pgOf s) := by
  cases s with
  | none => exact PageOk.nil
  | some e => exact h e rfl
def noneDs (S : List Slot) : List PyData := [.list ((S.take (S.length - 1)).map slD), .list ((S ++ [none]).map slD), .list ((S.take 2).map slD), .list ((S.take 3).map slD), .list ((List.replicate 66 (none : Slot)).map slD), .none, .int 4, .str "slots", .list ((List.replicate 2 (none : Slot)).map slD), .dict []]
theorem noneDs_no {S : List Slot} {M : Nat} (hS : S.length = 2 * M) (so : ∀ s ∈ S, SlotOk s) : ∀ d ∈ noneDs S, NoSlots d ∧ Surv d := by
  have k := noneLs_no hS so
  intro d hd
  simp only [noneDs, List.mem_cons, List.not_mem_nil, or_false] at hd
  rcases hd with rfl | rfl | rfl | rfl | rfl | rfl | rfl | rfl | rfl | rfl
  · exact k _ (by simp [noneLs])
  · exact k _ (by simp [noneLs])
  · exact k _ (by simp [noneLs])
  · exact k _ (by simp [noneLs])
  · exact k _ (by simp [noneLs])
  · exact ⟨noSl_not rfl, .inl rfl⟩
  · exact ⟨noSl_not rfl, .inl rfl⟩
  · exact ⟨noSl_not rfl, .inl rfl⟩
  · exact k _ (by simp [noneLs])
  · exact ⟨noSl_not rfl, .inr (.inl rfl)⟩
section
variable {P : Program} {w : World} {K : PySem.W.Frag} {mg : Str → Option Value} {base : Heap}
def spNone (K : PySem.W.Frag) : Sp := fun vs H Q _ => ∃ (b l : Addr) (z : V) (xs : List V) (S : List Slot) (M : Nat), vs = [.ref b, .ref l, z] ∧ BoxAt b H ∧ b ≠ l ∧ H l = some (.lst xs) ∧ WtL K H xs (S.map slD) ∧ S.length = 2 * M ∧ 2 ≤ M ∧ M ≤ 32 ∧ (∀ s ∈ S, SlotOk s) ∧ Wt K H z (.dict []) ∧
  ∀ x d H', Go [b] H H' → BoxAt b H' → Wt K H' x d → NoSlots d → Q x H'
abbrev s_none : Stmt := top 48
abbrev nms_none : List Str := ["box", "slots", "thing", "row", "kind", "place", "page", "odd"]
theorem sc_none : FnScope nms_none ["box", "slots", "thing"] (defScope s_none) := ⟨rfl, rfl, rfl, by decide +kernel, rfl, by decide +kernel, by decide +kernel⟩
theorem ok_none {f : Addr} {fd : FuncData} (F : Fun K "_law_none" "_law_none" s_none f fd) (hm : mg "_law_none" = some (.ref f)) (b : Binds K fd ["box", "slots", "thing"] []) (T : Bt mg)
    (c_pick : Cal P w K mg base 2 "_law_pick" spPick) (c_take : Cal P w K mg base 1 "_law_take" spTake) (c_no_page : Cal P w K mg base 3 "_law_no_page" (spNoPage K)) :
    Cal P w K mg base 4 "_law_none" (spNone K) := by
  refine cal_of F hm b sc_none (fun vs H Q E h => ?_) (fun cdv A outer s H vs Q E hr h => ?_)
  · obtain ⟨b, l, z, xs, S, M, rfl, _⟩ := h
    rfl
  · obtain ⟨b, l, z, xs, S, M, rfl, hb, nbl, el, wl, hS, m1, m2, so, wz, q⟩ := h
    have hu64 := pass_hu64 hr
    have hu1 : (A.deeper (PyProof.Rows.envOfC "_law_none" (defScope s_none) s.heap.objs.size f cdv)).units + 1 < cLine := by have := hr.un; omega
    refine ⟨_, (pss_cons (ps_set (i := 3) sc_none.nd rfl (by first | exact Or.inl rfl | exact Or.inr rfl) (pe_callTy cList (by rfl) T.list (by decide +kernel) (pa_cons (pv 1) pa_nil)))
    (pss_cons (ps_par rfl sc_none.nd (i := 4) (j := 5) rfl rfl (by decide) rfl rfl (pa_cons (pe_c c_take hr (by decide) (by rfl) (pa_cons (pv 0) (pa_cons pe_int pa_nil))) (pa_cons (pe_c c_take hr (by decide) (by rfl) (pa_cons (pv 0) (pa_cons (pe_callB cLen (by rfl) T.len (by decide +kernel) (pa_cons (pv 3) pa_nil)) pa_nil))) pa_nil)) (by rfl))
    (pss_cons (ps_if (pt_cmpR (oEqK K hu64) (pv 4) pe_int (nomark _))
    (pss_one (ps_ret (pe_c c_pick hr (by decide) (by rfl) (pa_cons (pv 0) (pa_cons (pe_lst (pa_cons (pe_slice (oSlK K) (pv 3) po_none (po_some (pe_un un_neg pe_int))) (pa_cons (pe_op (oAddK K) (pv 3) (pe_lst (pa_cons (pe_tup pa_nil) pa_nil))) (pa_cons (pe_slice (oSlK K) (pv 3) po_none (po_some pe_int)) (pa_cons (pe_slice (oSlK K) (pv 3) po_none (po_some pe_int)) (pa_cons (pe_op oMul (pe_lst (pa_cons (pe_tup pa_nil) pa_nil)) pe_int) (pa_cons pe_non (pa_cons pe_int (pa_cons pe_str (pa_cons (pe_op oMul (pe_lst (pa_cons (pe_tup pa_nil) pa_nil)) pe_int) (pa_cons (pv 2) pa_nil))))))))))) pa_nil)))))
    pss_nil)
    (pss_cons (ps_set (i := 6) sc_none.nd rfl (by first | exact Or.inl rfl | exact Or.inr rfl) (pe_ifExp (pt_cmpR (oNeK K hu64) (pe_ix (oIxK K) (pv 3) (pv 5) (fun _ _ => rfl)) (pe_tup pa_nil) (nomark _)) (pe_ix (oIxK K) (pe_ix (oIxK K) (pv 3) (pv 5) (fun _ _ => rfl)) pe_int (fun _ _ => rfl)) (pe_tup pa_nil)))
    (pss_cons (ps_set (i := 7) sc_none.nd rfl (by first | exact Or.inl rfl | exact Or.inr rfl) (pe_lst (pa_cons (pe_tup (pa_cons pe_int (pa_cons pe_int (pa_cons pe_int pa_nil)))) (pa_cons (pe_tup (pa_cons pe_int (pa_cons pe_int (pa_cons pe_int (pa_cons (pv 6) (pa_cons pe_int pa_nil)))))) (pa_cons (pe_tup (pa_cons (pe_un un_neg pe_int) (pa_cons pe_int (pa_cons pe_int (pa_cons (pv 6) pa_nil))))) (pa_cons (pe_tup (pa_cons pe_int (pa_cons pe_bl (pa_cons pe_int (pa_cons (pv 6) pa_nil))))) (pa_cons (pe_tup (pa_cons pe_int (pa_cons pe_int (pa_cons pe_non (pa_cons (pv 6) pa_nil))))) (pa_cons (pe_lst (pa_cons pe_int (pa_cons pe_int (pa_cons pe_int (pa_cons (pv 6) pa_nil))))) (pa_cons pe_int (pa_cons pe_non (pa_cons (pe_tup (pa_cons pe_int (pa_cons pe_int (pa_cons pe_str (pa_cons (pv 6) pa_nil))))) pa_nil)))))))))))
    (pss_cons (ps_if (pt_cmpR (oEqK K hu64) (pv 4) pe_int (nomark _))
    (pss_one (ps_set (i := 7) sc_none.nd rfl (by first | exact Or.inl rfl | exact Or.inr rfl) (pe_lst (pa_cons (pe_tup (pa_cons pe_int (pa_cons pe_int (pa_cons pe_int (pa_cons (pe_c c_no_page hr (by decide) (by rfl) (pa_cons (pv 0) (pa_cons (pv 6) (pa_cons (pv 2) pa_nil)))) pa_nil))))) pa_nil))))
    pss_nil)
    (pss_cons (ps_asg (pe_c c_pick hr (by decide) (by rfl) (pa_cons (pv 0) (pa_cons (pv 7) pa_nil))) (pg_sub (pv 3) (pv 5) set_list))
    (pss_one (ps_ret (pe_c c_pick hr (by decide) (by rfl) (pa_cons (pv 0) (pa_cons (pe_lst (pa_cons (pv 3) (pa_cons (pe_callTy cTuple (by rfl) T.tuple (by decide +kernel) (pa_cons (pv 3) pa_nil)) pa_nil))) pa_nil)))))))))))), ?_⟩
    try dsimp only [cxOf]
    have lx : xs.length = 2 * M := by rw [wl.len, List.length_map, hS]
    walk_at "y"
    refine x_lstl el fun p H1 e1 n1 h1 => ?_
    have r1 : RS K H b p S M H1 := ⟨e1.go, hb.go e1.go (S := []) (by simp), n1, box_ne hb, ⟨xs, h1, wl.ex e1⟩, hS, so⟩
    walk_at "y"
    refine ⟨b, 4, rfl, r1.bx, by decide, by decide, fun kd H2 hkd g2 hb2 => ?_⟩
    have r2 := r1.box g2 hb2
    obtain ⟨ys2, ey2, wy2⟩ := r2.at_
    have ly2 : ys2.length = 2 * M := by rw [wy2.len, List.length_map, hS]
    walk_at "y"
    refine x_lenl ey2 ?_
    walk_at "y"
    refine ⟨b, ys2.length, rfl, r2.bx, by omega, by omega, fun pl H3 hpl g3 hb3 => ?_⟩
    have r3 := r2.box g3 hb3
    have wz3 := ((wz.ex e1).aside g2 (fun s hs => by rw [List.mem_singleton.mp hs]; exact .inl r1.bx) rfl).aside g3 (fun s hs => by rw [List.mem_singleton.mp hs]; exact .inl r2.bx) rfl
    obtain ⟨ys3, ey3, wy3⟩ := r3.at_
    have box_not : ∀ {H' : Hp} {l' : Addr} {xs' : List V}, BoxAt b H' → H' l' = some (.lst xs') → xs'.length ≠ 3 → b ≠ l' := fun hb' e ne z => by
      obtain ⟨i, j, k, eb⟩ := hb'
      rw [z, e] at eb
      cases eb
      exact ne rfl
    have asd : ∀ {H' H'' : Hp} {v : V} {d : PyData}, BoxAt b H' → Go [b] H' H'' → noTri d = true → Wt K H' v d → Wt K H'' v d := fun hb' g t w => w.aside g (fun s hs => by rw [List.mem_singleton.mp hs]; exact .inl hb') t
    walk_at "y"
    split
    · refine x_ret (x_call (x_cons (x_var rfl (x_cons ?_))))
      have wr : Wt K H3 (.ref p) (.list (S.map slD)) := .lst ey3 wy3
      refine ev_lst (K := K) (ds := noneDs S) ?_ (by simp [noneDs]) H3 (Ex.refl _) _ fun v4 H4 e4 w4 => ?_
      · have one : EvD K (((List.set (L2.start nms_none [V.ref b, V.ref l, z]) 3 (some (V.ref p))).set 4 (some (V.int (kd : Int)))).set 5 (some (V.int (pl : Int)))) H3 (tLst (tCons (tTup tNil) tNil)) (.list [.tuple []]) := ev_lst (ev_cons (ev_tup ev_nil) ev_nil)
        refine ev_cons ?_ (ev_cons ?_ (ev_cons ?_ (ev_cons ?_ (ev_cons ?_ (ev_cons ev_none (ev_cons ev_int (ev_cons ev_str (ev_cons ?_ (ev_cons (ev_var rfl wz3) ev_nil)))))))))
        · rw [← cut_but]; exact ev_butLast (ev_var rfl wr)
        · rw [List.map_append]; exact ev_addl (ev_var rfl wr) one (by simp; omega)
        · rw [List.map_take]; exact ev_toL 2 rfl (ev_var rfl wr)
        · rw [List.map_take]; exact ev_toL 3 rfl (ev_var rfl wr)
        · rw [List.map_replicate]; exact ev_mulL 66 rfl (by decide) one
        · rw [List.map_replicate]; exact ev_mulL 2 rfl (by decide) one
      cases w4 with
      | @lst l4 xs4 _ e4' wa4 =>
      have r4 := r3.ex e4
      have l10 : xs4.length = 10 := by rw [wa4.len]; rfl
      walk_at "y"
      refine ⟨b, l4, xs4, rfl, r4.bx, e4', box_not r4.bx e4' (by omega), by omega, by omega, fun ix x H5 hx g5 hb5 => ?_⟩
      obtain ⟨d, hd, wd⟩ := wa4.get hx
      obtain ⟨no, tr⟩ := noneDs_no hS so d (List.mem_of_getElem? hd)
      exact q x d H5 (r4.g.trans g5) hb5 (surv_go r4.bx g5 tr wd) no
    · obtain ⟨s, hs⟩ : ∃ s, S[pl]? = some s := ⟨_, List.getElem?_eq_getElem (by rw [hS]; omega)⟩
      obtain ⟨v, hv, wv⟩ := wy3.getD (slot_at hs)
      have sok : SlotOk s := so s (List.mem_of_getElem? hs)
      have wz3' := wz3
      have pok := pgOf_ok sok
      refine x_next ?_
      dsimp only
      refine x_seq ?_
      refine x_asgEv (K := K) (d := pageD (pgOf s)) ?_ fun v6 H6 e6 w6 => ?_
      · refine ev_if0 s.isSome (fun H7 e7 Q7 q7 => ?_) (fun hc => ?_) fun hc => ?_
        · refine x_test (x_op (x_op (x_var rfl (x_var rfl ?_))))
          refine x_ixl (e7 _ _ ey3) rfl hv (x_tup (x_nil (x_mkt (K := K) .nil fun u8 H8 e8 w8 => ?_)))
          refine x_ned (wv.ex (e7.trans e8)) w8 (lay_slot sok).shaped rfl ?_
          refine ⟨_, rfl, ?_⟩
          cases s with
          | none => exact q7 H8 e8
          | some e => exact q7 H8 e8
        · cases s with
          | none => cases hc
          | some e =>
            intro H7 e7 Q7 q7
            refine x_op (x_op (x_var rfl (x_var rfl ?_)))
            refine x_ixl (e7 _ _ ey3) rfl hv (x_c ?_)
            exact x_ixd (n := 3) (d := pageD e.p) (wv.ex e7) rfl rfl fun u wu => q7 u H7 (Ex.refl _) wu
        · cases s with
          | some e => cases hc
          | none => exact ev_tup ev_nil
      dsimp only
      refine x_seq ?_
      refine x_asgEv (K := K) (d := .list (oddEs (pgOf s))) ?_ fun v7 H7 e7 w7 => ?_
      · have v6v := ev_var (K := K) (i := 6) (σ := (((List.set (L2.start nms_none [V.ref b, V.ref l, z]) 3 (some (V.ref p))).set 4 (some (V.int (kd : Int)))).set 5 (some (V.int (pl : Int)))).set 6 (some v6)) rfl w6
        refine ev_lst ?_ (by simp [oddEs])
        refine ev_cons (ev_tup (ev_cons ev_int (ev_cons ev_int (ev_cons ev_int ev_nil)))) (ev_cons (ev_tup (ev_cons ev_int (ev_cons ev_int (ev_cons ev_int (ev_cons v6v (ev_cons ev_int ev_nil)))))) (ev_cons (ev_tup (ev_cons (ev_neg ev_int) (ev_cons ev_int (ev_cons ev_int (ev_cons v6v ev_nil))))) ?_))
        refine ev_cons (ev_tup (ev_cons ev_int (ev_cons ev_bl (ev_cons ev_int (ev_cons v6v ev_nil))))) (ev_cons (ev_tup (ev_cons ev_int (ev_cons ev_int (ev_cons ev_none (ev_cons v6v ev_nil))))) (ev_cons (ev_lst (ev_cons ev_int (ev_cons ev_int (ev_cons ev_int (ev_cons v6v ev_nil))))) ?_))
        exact ev_cons ev_int (ev_cons ev_none (ev_cons (ev_tup (ev_cons ev_int (ev_cons ev_int (ev_cons ev_str (ev_cons v6v ev_nil))))) ev_nil))
      have r7 := r3.ex (e6.trans e7)
      have w67 := w6.ex e7
      have wz7 := wz3.ex (e6.trans e7)
      dsimp only
      refine x_seq ?_
      refine x_ifJ (fun σ' H' => ∃ (l8 : Addr) (xs8 : List V) (ds : List PyData), σ' = [some (.ref b), some (.ref l), some z, some (.ref p), some (.int (kd : Int)), some (.int (pl : Int)), some v6, some (.ref l8)] ∧ RS K H b p S M H' ∧ H' l8 = some (.lst xs8) ∧ WtL K H' xs8 ds ∧ (∀ d ∈ ds, BadSlot1 d) ∧ ds.length ≠ 3 ∧ 0 < ds.length ∧ ds.length ≤ 20) (fun σ' H8 pp => ?_) fun nx' tail => ?_
      · obtain ⟨l8, xs8, ds, rfl, r8, e8, w8, bad8, n3, n0, n20⟩ := pp
        have lx8 : xs8.length = ds.length := w8.len
        walk_at "y"
        refine ⟨b, l8, xs8, rfl, r8.bx, e8, box_not r8.bx e8 (by omega), by omega, by omega, fun ix x H9 hx g9 hb9 => ?_⟩
        obtain ⟨d, hd, wd⟩ := w8.get hx
        have bd := bad8 d (List.mem_of_getElem? hd)
        have wd9 := asd r8.bx g9 bd.tr wd
        have r9 := r8.box g9 hb9
        obtain ⟨ys9, ey9, wy9⟩ := r9.at_
        have ly9 : ys9.length = 2 * M := by rw [wy9.len, List.length_map, hS]
        walk_at "y"
        refine x_setl ey9 rfl (by omega) fun H10 g10 h10 => ?_
        have nbp := r9.nb
        have hb10 := hb9.go g10 (by simp [nbp])
        have G10 : Go [b] H H10 := go_out r9.g g10 fun x hx => .inr (by rw [List.mem_singleton.mp hx]; exact r9.fr)
        have trds : noTri.noTriL ((S.map slD).set pl d) = true := by
          rw [List.set_eq_take_append_cons_drop]
          split
          · refine tri_app (noTriL_of ?_) ?_
            · rw [← List.map_take]
              exact sl_to fun s hs => so s (List.mem_of_mem_take hs)
            · show (noTri d && noTri.noTriL _) = true
              rw [bd.tr, ← List.map_drop, noTriL_of (sl_to fun s hs => so s (List.mem_of_mem_drop hs))]
              rfl
          · exact noTriL_of (sl_to so)
        have w10 : WtL K H10 (ys9.set pl x) ((S.map slD).set pl d) := (wy9.set wd9 pl).aside g10 (fun s hs => by
          rw [List.mem_singleton.mp hs]
          exact .inr (.inr ⟨ys9, S, ey9, wy9, fun z => by rw [z] at hS; simp at hS; omega⟩)) trds
        walk_at "y"
        refine x_tupl h10 fun pt H11 e11 n11 h11 => ?_
        walk_at "y"
        refine x_mkl fun pL H12 e12 n12 h12 => ?_
        have hb12 := hb10.go (e11.trans e12).go (S := []) (by simp)
        walk_at "y"
        refine ⟨b, pL, _, rfl, hb12, h12, fun z => box_ne (hb10.go e11.go (S := []) (by simp)) (by rw [z]; exact n12), by simp, by simp, fun iy y H13 hy g13 hb13 => ?_⟩
        have hns := noSl_set (ds := S.map slD) (n := pl) (by rw [List.length_map, hS]; omega) (fun x hx => by
          obtain ⟨s, hs, rfl⟩ := List.mem_map.mp hx
          exact slotSide_ok (so s hs)) bd
        have G13 : Go [b] H H13 := G10.trans ((e11.trans e12).go.trans g13)
        have w13 : WtL K H13 (ys9.set pl x) ((S.map slD).set pl d) := (w10.ex (e11.trans e12)).aside g13 (fun s hs => by rw [List.mem_singleton.mp hs]; exact .inl hb12) trds
        match iy with
        | 0 =>
          cases hy
          exact q _ _ H13 G13 hb13 (.lst (g13.keep _ _ (by simp [Ne.symm nbp]) ((e11.trans e12) _ _ h10)) w13) hns.1
        | 1 =>
          cases hy
          exact q _ _ H13 G13 hb13 (.tup (g13.tup _ _ (e12 _ _ h11)) w13) hns.2
        | _ + 2 => cases hy
      · cases w7 with
        | @lst l7 xs7 _ e7' wa7 =>
        walk_at "y"
        split
        · walk_at "y"
          refine ⟨b, v6, z, pgOf s, rfl, r7.bx, w67, pok, wz7, fun x d H8 g8 hb8 wx od8 => ?_⟩
          have r8 := r7.box g8 hb8
          walk_at "y"
          refine x_mkt (.cons (.int _) (.cons (.int _) (.cons (.int _) (.cons wx .nil)))) fun u9 H9 e9 w9 => ?_
          walk_at "y"
          refine x_mkl fun p10 H10 e10 n10 h10 => ?_
          walk_at "y"
          refine tail _ _ ⟨p10, [u9], [.tuple [.int 1, .int 1, .int 0, d]], rfl, r8.ex (e9.trans e10), h10, .cons (w9.ex e10) .nil, fun x hx => ?_, by simp, by simp, by simp⟩
          rw [List.mem_singleton.mp hx]
          refine bad_tup (fun a b c q e => by cases e; exact ⟨od8.sd, by rw [od8.no]; rfl⟩) (by simp) ?_
          show (true && (true && (true && (noTri d && true)))) = true
          rw [od8.tr]
          rfl
        · walk_at "y"
          exact tail _ _ ⟨l7, xs7, oddEs (pgOf s), rfl, r7, e7', wa7, oddEs_bad pok, by simp [oddEs], by simp [oddEs], by simp [oddEs]⟩
end
end Y
/-! part F4 -/
/-! Pages behind rows, and what is refused. -/
namespace Y
open PySem LamX L2
local macro_rules | `(tactic| walk_at "y1") => `(tactic| (first
  | (with_reducible refine x_seq ?_) | (with_reducible refine x_asg ?_) | (with_reducible refine x_name ?_) | (with_reducible refine x_drop ?_) | (with_reducible refine x_ret ?_) | (with_reducible refine x_retN ?_)
  | (with_reducible refine x_next ?_) | (with_reducible refine x_brk ?_) | (with_reducible refine x_ifS ?_)
  | (with_reducible refine x_c ?_) | (with_reducible refine x_op ?_) | (with_reducible refine x_un ?_) | (with_reducible refine x_cb ?_) | (with_reducible refine x_cons ?_) | (with_reducible refine x_nil ?_)
  | (with_reducible refine x_call ?_) | (with_reducible refine x_tup ?_) | (with_reducible refine x_lst ?_) | (with_reducible refine x_sl ?_) | (with_reducible refine x_nopart ?_) | (with_reducible refine x_part ?_)
  | (with_reducible refine x_andV ?_) | (with_reducible refine x_orV ?_) | (with_reducible refine x_notV ?_) | (with_reducible refine x_if ?_) | (with_reducible refine x_test ?_) | (with_reducible refine x_tb ?_)
  | (with_reducible refine x_and ?_) | (with_reducible refine x_or ?_) | (with_reducible refine x_not ?_) | (with_reducible refine x_chain ?_) | (with_reducible refine x_exbl ?_) | (with_reducible refine x_exint ?_)
  | (with_reducible refine x_fld ?_) | (with_reducible refine x_sfld ?_) | (with_reducible refine x_par ?_) | (with_reducible refine x_par3 ?_) | (with_reducible refine x_dget ?_) | (with_reducible refine x_dput ?_)
  | (with_reducible refine x_bm ?_) | (with_reducible refine x_bm0 ?_) | (with_reducible refine x_pair ?_) | (with_reducible refine x_tri ?_) | (with_reducible refine x_int ?_) | (with_reducible refine x_intb ?_) | (with_reducible refine x_abs ?_) | (with_reducible refine x_isN ?_) | (with_reducible refine x_notN ?_) | (with_reducible refine x_meth ?_) | (with_reducible refine x_make ?_)
  | (with_reducible refine x_ite1 ?_) | (with_reducible refine x_ite0 ?_)
  | (with_reducible refine x_addi ?_) | (with_reducible refine x_neg ?_) | (with_reducible refine x_i0 ?_) | (with_reducible refine x_eqi ?_) | (with_reducible refine x_eqs ?_) | (with_reducible refine x_eqb ?_) | (with_reducible refine x_nei ?_) | (with_reducible refine x_lti ?_)
  | (with_reducible refine x_forL ?_) | (with_reducible refine x_forT ?_) | (with_reducible refine x_forR ?_) | (with_reducible refine x_forR2 ?_) | (with_reducible refine x_lcL ?_) | (with_reducible refine x_lcT ?_) | (with_reducible refine x_lcR ?_)
  | (with_reducible refine x_yes ?_) | (with_reducible refine x_pcons ?_) | (with_reducible refine x_pnil ?_) | (with_reducible refine x_gcons ?_) | (with_reducible refine x_gnil ?_) | (with_reducible refine x_gattr ?_) | (with_reducible refine x_raise ?_) | (with_reducible refine x_gsub ?_) | (with_reducible refine x_fldaug ?_) | (with_reducible refine x_radd ?_) | (with_reducible refine x_ipi ?_) | ((with_reducible refine x_aug (x := ?vv) ?hh ?qq); (case hh => exact rfl))
  | ((with_reducible refine x_iteA ?hc ?q); (case hc => exact rfl)) | ((with_reducible refine x_iteB ?hc ?q); (case hc => exact rfl))
  | ((with_reducible refine x_var (v := ?vv) ?hh ?qq); (case hh => exact rfl))
  | ((with_reducible refine r_isInt (d := ?dd) ?hh ?qq); (case hh => assumption)) | ((with_reducible refine r_isBool (d := ?dd) ?hh ?qq); (case hh => assumption)) | ((with_reducible refine r_isTup (d := ?dd) ?hh ?qq); (case hh => assumption))
  | ((with_reducible refine r_isStr (d := ?dd) ?hh ?qq); (case hh => assumption)) | ((with_reducible refine r_isLst (d := ?dd) ?hh ?qq); (case hh => assumption))))
local macro_rules | `(tactic| walk_at "y") => `(tactic| (repeat (walk_at "y1")))
section
variable {P : Program} {w : World} {K : PySem.W.Frag} {mg : Str → Option Value} {base : Heap}
/-- the box and the tables, behind H0 -/
structure BT (TT : List (Addr × Str)) (b : Addr) (H0 H : Hp) : Prop where
  g : GoT [b] H0 H
  bx : BoxAt b H
  tb : Tabs TT H
section
variable {TT : List (Addr × Str)} {b : Addr} {H0 H H' : Hp}
theorem BT.exN (r : BT TT b H0 H) (e : ExtN H H') (t : Tabs TT H') : BT TT b H0 H' := ⟨r.g.trans (goT_N e), r.bx.exN e, t⟩
theorem BT.ex (r : BT TT b H0 H) (e : Ex H H') : BT TT b H0 H' := r.exN (ExtN.of e) (r.tb.ext e)
theorem BT.go (r : BT TT b H0 H) (g : Go [b] H H') (hb : BoxAt b H') : BT TT b H0 H' := by
  obtain ⟨i, j, k, eb⟩ := r.bx
  exact ⟨r.g.trans g.goT, hb, Tabs.go r.tb g fun s hs => by rw [List.mem_singleton.mp hs]; exact .inl ⟨_, eb⟩⟩
theorem BT.asd {v : V} {d : PyData} (r : BT TT b H0 H) (g : Go [b] H H') (t : noTri d = true) (wv : Wt K H v d) : Wt K H' v d := wv.aside g (fun s hs => by rw [List.mem_singleton.mp hs]; exact .inl r.bx) t
end
abbrev qLam (x : Str) (sc : Scope) : Str := (PyProof.Rows.envOfC x sc 0 0 .none).qual ++ ("<lambda>" : Str)
def spPages (K : PySem.W.Frag) (TT : List (Addr × Str)) : Sp := fun vs H Q _ => ∃ (b : Addr) (z : V), vs = [.ref b, z] ∧ BoxAt b H ∧ Wt K H z (.dict []) ∧ Tabs TT H ∧ ∀ H', GoT [b] H H' → Tabs TT H' → BoxAt b H' → Q (.bl true) H'
abbrev s_pages : Stmt := top 49
abbrev nms_pages : List Str := ["box", "thing", "turn", "page", "row", "bad", "more"]
theorem sc_pages : FnScope nms_pages ["box", "thing"] (defScope s_pages) := ⟨rfl, rfl, rfl, by decide +kernel, rfl, by decide +kernel, by decide +kernel⟩
theorem ok_pages {f c Pt : Addr} {fd : FuncData} {TT : List (Addr × Str)} (ER : Ers P K mg) (EK : ExK P K mg ER) (F : Fun K "_law_pages" "_law_pages" s_pages f fd) (hcd : fd.code = .ref c) (TB : TabB base mg c Pt) (hmT : (Pt, qLam "_law_pages" (defScope s_pages)) ∈ TT) (huT : ∀ p ∈ TT, p.1 = Pt → p.2 = qLam "_law_pages" (defScope s_pages)) (hm : mg "_law_pages" = some (.ref f)) (b : Binds K fd ["box", "thing"] []) (T : Bt mg)
    {gH : Addr} {fdH : FuncData} (FH : Fun K "_law_heard" "_law_heard" s_heard gH fdH) (hmH : mg "_law_heard" = some (.ref gH)) (bH : Binds K fdH ["work"] [])
    (c_row : Cal P w K mg base 4 "_law_row" (spRowL K)) (c_pick : Cal P w K mg base 2 "_law_pick" spPick) (c_no_page : Cal P w K mg base 3 "_law_no_page" (spNoPage K)) (c_same : Cal P w K mg base 10 "_law_same" (spSame K 10)) (c_over : Cal P w K mg base 1 "_law_over" (spOver K))
    (c_page_behind : Cal P w K mg base 4 "page_behind" (spBehind P K mg ER)) :
    Cal P w K mg base 12 "_law_pages" (spPages K TT) := by
  have FHk := FH.kp
  obtain ⟨ocH, odH, kVH, docH, pmH, anH, cdvH, ctH, oslH, rfl, lkH, hcdH⟩ := FH.ex
  refine cal_ofC F hm b sc_pages (fun vs H Q E h => ?_) (fun cdv hcdv A outer s H vs Q E hr h => ?_)
  · obtain ⟨b, z, rfl, _⟩ := h
    rfl
  · obtain ⟨b, z, rfl, hb, wz, hT, q⟩ := h
    have hu64 := pass_hu64 hr
    have hcode : cdv = .ref c := hcdv.symm.trans hcd
    refine ⟨_, (pss_cons (ps_for (passes_of rfl) rfl (pi_range1 (by rfl) T.range (pa_cons pe_int pa_nil)) (pg_name (i := 2) sc_pages.nd rfl (by first | exact Or.inl rfl | exact Or.inr rfl))
    (pss_cons (ps_asg (pe_tup (pa_cons (pe_c c_row hr (by decide) (by rfl) (pa_cons (pv 0) (pa_cons pe_int (pa_cons pe_int pa_nil)))) (pa_cons (pe_c c_row hr (by decide) (by rfl) (pa_cons (pv 0) (pa_cons (pe_c c_pick hr (by decide) (by rfl) (pa_cons (pv 0) (pa_cons (pe_lst (pa_cons pe_int (pa_cons pe_int (pa_cons pe_int (pa_cons pe_int pa_nil))))) pa_nil))) (pa_cons pe_int pa_nil)))) pa_nil))) (pg_tup (n := 2) rfl (pgs_cons (pg_name (i := 3) sc_pages.nd rfl (by first | exact Or.inl rfl | exact Or.inr rfl)) (pgs_cons (pg_name (i := 4) sc_pages.nd rfl (by first | exact Or.inl rfl | exact Or.inr rfl)) pgs_nil))))
    (pss_cons (ps_if (pt_not (pt_val (pe_c c_same hr (by decide) (by rfl) (pa_cons (pe_c c_page_behind hr (by decide) (by rfl) (pa_cons (pv 3) (pa_cons (pv 4) pa_nil))) (pa_cons (pe_c c_over hr (by decide) (by rfl) (pa_cons (pv 3) (pa_cons (pv 4) pa_nil))) pa_nil)))))
    (pss_one (ps_ret pe_bl))
    pss_nil)
    (pss_cons (ps_asg (pe_tup (pa_cons (pe_c c_no_page hr (by decide) (by rfl) (pa_cons (pv 0) (pa_cons (pv 3) (pa_cons (pv 1) pa_nil)))) (pa_cons (pe_c c_no_page hr (by decide) (by rfl) (pa_cons (pv 0) (pa_cons (pv 4) (pa_cons (pv 1) pa_nil)))) pa_nil))) (pg_tup (n := 2) rfl (pgs_cons (pg_name (i := 5) sc_pages.nd rfl (by first | exact Or.inl rfl | exact Or.inr rfl)) (pgs_cons (pg_name (i := 6) sc_pages.nd rfl (by first | exact Or.inl rfl | exact Or.inr rfl)) pgs_nil))))
    (pss_cons (ps_if (pt_not (pt_val (pe_c c_same hr (by decide) (by rfl) (pa_cons (lamT (k := 8) (T := TT) (by rfl) hmH FHk lkH hcdH bH sc_heard rfl (Or.inl rfl) (heard_gives ER EK ER.cP "page" (0) HeardOk.page) TB hcode hmT huT (hr.mono (by decide)) (lamS_by (sc := defScope s_pages) (by decide +kernel)) rfl (fun _ _ _ _ _ => rfl) (fun A2 outer2 s2 H2 E2 f2 c2 hr2 => (pe_cX c_page_behind hr2 (by decide) (passes_call (takes_of rfl rfl rfl rfl) (fun _ _ _ _ h => h)) (by rfl) (pa_cons (pv 5) (pa_cons (pe_c c_pick hr2 (by decide) (by rfl) (pa_cons (pv 0) (pa_cons (pe_lst (pa_cons (pv 4) (pa_cons (pv 6) pa_nil))) pa_nil))) pa_nil))))) (pa_cons (pe_tup (pa_cons pe_str (pa_cons pe_int pa_nil))) pa_nil)))))
    (pss_one (ps_ret pe_bl))
    pss_nil)
    (pss_one (ps_if (pt_not (pt_val (pe_c c_same hr (by decide) (by rfl) (pa_cons (lamT (k := 8) (T := TT) (by rfl) hmH FHk lkH hcdH bH sc_heard rfl (Or.inl rfl) (heard_gives ER EK ER.cP "page" (1) HeardOk.page) TB hcode hmT huT (hr.mono (by decide)) (lamS_by (sc := defScope s_pages) (by decide +kernel)) rfl (fun _ _ _ _ _ => rfl) (fun A2 outer2 s2 H2 E2 f2 c2 hr2 => (pe_cX c_page_behind hr2 (by decide) (passes_call (takes_of rfl rfl rfl rfl) (fun _ _ _ _ h => h)) (by rfl) (pa_cons (pv 3) (pa_cons (pv 6) pa_nil))))) (pa_cons (pe_tup (pa_cons pe_str (pa_cons pe_int pa_nil))) pa_nil)))))
    (pss_one (ps_ret pe_bl))
    pss_nil)))))))
    (pss_one (ps_ret pe_bl))), ?_⟩
    try dsimp only [cxOf]
    have r0 : BT TT b H H := ⟨⟨fun _ _ _ h _ => h, fun _ _ h => h⟩, hb, hT⟩
    refine x_seq (x_forR ?_)
    walk_at "y"
    rw [show (3 : Int) = ((3 : Nat) : Int) from rfl]
    refine y_forR 3 (fun i σ H' => BT TT b H H' ∧ Wt K H' z (.dict []) ∧ ∃ o2 o3 o4 o5 o6, σ = [some (.ref b), some z, o2, o3, o4, o5, o6]) (by decide) ⟨r0, wz, _, _, _, _, _, rfl⟩ (fun k σ H1 hk p => ?_) fun σ H1 p => ?_
    · obtain ⟨r1, wz1, o2, o3, o4, o5, o6, rfl⟩ := p
      walk_at "y"
      refine ⟨b, 14, 6, rfl, r1.bx, by decide, by decide, by decide, fun y3 pg H2 g2 hb2 w3 hp3 => ?_⟩
      have r2 := r1.go g2 hb2
      have wz2 := r1.asd g2 rfl wz1
      walk_at "y"
      refine x_mkl fun p3 H3 e3 n3 h3 => ?_
      have r3 := r2.ex e3
      have nb3 : b ≠ p3 := fun z => box_ne r2.bx (by rw [z]; exact n3)
      walk_at "y"
      refine ⟨b, p3, _, rfl, r3.bx, h3, nb3, by simp, by simp, fun i x4 H4 hx4 g4 hb4 => ?_⟩
      have r4 := r3.go g4 hb4
      obtain ⟨most, rfl, mo⟩ : ∃ n : Nat, x4 = .int (n : Int) ∧ n ≤ 14 := by
        match i with
        | 0 => cases hx4; exact ⟨0, rfl, by decide⟩
        | 1 => cases hx4; exact ⟨1, rfl, by decide⟩
        | 2 => cases hx4; exact ⟨3, rfl, by decide⟩
        | 3 => cases hx4; exact ⟨14, rfl, by decide⟩
        | _ + 4 => cases hx4
      walk_at "y"
      refine ⟨b, most, 6, rfl, r4.bx, mo, by decide, by decide, fun y4 rw' H5 g5 hb5 w4 hp4 => ?_⟩
      have r5 := r4.go g5 hb5
      have t3 := (lay_page hp3).to
      have t4 := (lay_page hp4).to
      have w3 := ((w3.ex e3).go g4 t3).go g5 t3
      have wz5 := r4.asd g5 rfl (r3.asd g4 rfl (wz2.ex e3))
      walk_at "y"
      refine x_mkr fun p6 H6 e6 n6 h6 => ?_
      walk_at "y"
      refine x_gtup h6 rfl ?_
      have r6 := r5.ex e6
      have w3 := w3.ex e6
      have w4 := w4.ex e6
      have wz6 := wz5.ex e6
      walk_at "y"
      refine ⟨y3, y4, _, _, rfl, w3, pageSide_ok hp3, .inr ⟨pg, rfl, hp3, w4, pageSide_ok hp4, .inr ⟨rw', rfl, hp4, fun v7 H7 e7 w7 => ?_⟩⟩⟩
      walk_at "y"
      refine ⟨y3, y4, pg, rw', rfl, w3.ex e7, w4.ex e7, hp3, hp4, fun v8 H8 e8 w8 => ?_⟩
      walk_at "y"
      refine ⟨v7, v8, pageD (over pg rw'), rfl, w7.ex e8, w8, (sm_page (hp3.over hp4)).mono (by decide), fun H9 e9 => ?_⟩
      have E9 := (e7.trans e8).trans e9
      have r9 := r6.ex E9
      have w3 := w3.ex E9
      have w4 := w4.ex E9
      have wz9 := wz6.ex E9
      walk_at "y"
      refine ⟨b, y3, z, pg, rfl, r9.bx, w3, hp3, wz9, fun bad dbad H10 g10 hb10 wb ob => ?_⟩
      have r10 := r9.go g10 hb10
      have wz10 := r9.asd g10 rfl wz9
      have w3 := w3.go g10 t3
      have w4 := w4.go g10 t4
      walk_at "y"
      refine ⟨b, y4, z, rw', rfl, r10.bx, w4, hp4, wz10, fun mor dmor H11 g11 hb11 wm om => ?_⟩
      have r11 := r10.go g11 hb11
      have wz11 := r10.asd g11 rfl wz10
      have w3 := w3.go g11 t3
      have w4 := w4.go g11 t4
      have wb := r10.asd g11 ob.tr wb
      walk_at "y"
      refine x_mkr fun p12 H12 e12 n12 h12 => ?_
      walk_at "y"
      refine x_gtup h12 rfl ?_
      have r12 := r11.ex e12
      have wz12 := wz11.ex e12
      have w3 := w3.ex e12
      have w4 := w4.ex e12
      have wb := wb.ex e12
      have wm := wm.ex e12
      walk_at "y"
      refine x_lam r12.tb fun H13 e13 tb13 => ?_
      have r13 := r12.exN e13 tb13
      have wz13 := wz12.exN e13
      have w3 := w3.exN e13
      have w4 := w4.exN e13
      have wb := wb.exN e13
      have wm := wm.exN e13
      try unfold THeard
      try dsimp only
      walk_at "y"
      refine x_mkl fun p14 H14 e14 n14 h14 => ?_
      have r14 := r13.ex e14
      have nb14 : b ≠ p14 := fun z => box_ne r13.bx (by rw [z]; exact n14)
      walk_at "y"
      refine ⟨b, p14, _, rfl, r14.bx, h14, nb14, by simp, by simp, fun i x15 H15 hx15 g15 hb15 => ?_⟩
      have r15 := r14.go g15 hb15
      have wz15 := r14.asd g15 rfl (wz13.ex e14)
      have w3 := (w3.ex e14).go g15 t3
      have wb := r14.asd g15 ob.tr (wb.ex e14)
      have wm := r14.asd g15 om.tr (wm.ex e14)
      walk_at "y"
      refine ⟨bad, x15, dbad, .none, rfl, wb, ob.sd, .inl ⟨ob.no, errs_heard fun u16 H16 e16 w16 => ?_⟩⟩
      walk_at "y"
      refine x_mkt (K := K) (.cons (.str _) (.cons (.int _) .nil)) fun u17 H17 e17 w17 => ?_
      walk_at "y"
      refine ⟨u16, u17, _, rfl, w16.ex e17, w17, sm_word _ _, fun H18 e18 => ?_⟩
      have E18 := (e16.trans e17).trans e18
      have r18 := r15.ex E18
      have wz18 := wz15.ex E18
      have w3 := w3.ex E18
      have wm := wm.ex E18
      walk_at "y"
      refine x_lam r18.tb fun H19 e19 tb19 => ?_
      have r19 := r18.exN e19 tb19
      have wz19 := wz18.exN e19
      have w3 := w3.exN e19
      have wm := wm.exN e19
      try unfold THeard
      try dsimp only
      walk_at "y"
      refine ⟨y3, mor, _, dmor, rfl, w3, pageSide_ok hp3, .inr ⟨pg, rfl, hp3, wm, om.sd, .inl ⟨om.no, errs_heard fun u20 H20 e20 w20 => ?_⟩⟩⟩
      walk_at "y"
      refine x_mkt (K := K) (.cons (.str _) (.cons (.int _) .nil)) fun u21 H21 e21 w21 => ?_
      walk_at "y"
      refine ⟨u20, u21, _, rfl, w20.ex e21, w21, sm_word _ _, fun H22 e22 => ?_⟩
      have E22 := (e20.trans e21).trans e22
      walk_at "y"
      exact ⟨r19.ex E22, wz19.ex E22, _, _, _, _, _, rfl⟩
    · obtain ⟨r1, wz1, o2, o3, o4, o5, o6, rfl⟩ := p
      walk_at "y"
      exact q H1 r1.g r1.tb r1.bx
end
end Y
/-! part F5 -/
/-! Lots of puts; what a disk refuses. -/
namespace Y
open PySem LamX L2
local macro_rules | `(tactic| walk_at "y1") => `(tactic| (first
  | (with_reducible refine x_seq ?_) | (with_reducible refine x_asg ?_) | (with_reducible refine x_name ?_) | (with_reducible refine x_drop ?_) | (with_reducible refine x_ret ?_) | (with_reducible refine x_retN ?_)
  | (with_reducible refine x_next ?_) | (with_reducible refine x_brk ?_) | (with_reducible refine x_ifS ?_)
  | (with_reducible refine x_c ?_) | (with_reducible refine x_op ?_) | (with_reducible refine x_un ?_) | (with_reducible refine x_cb ?_) | (with_reducible refine x_cons ?_) | (with_reducible refine x_nil ?_)
  | (with_reducible refine x_call ?_) | (with_reducible refine x_tup ?_) | (with_reducible refine x_lst ?_) | (with_reducible refine x_sl ?_) | (with_reducible refine x_nopart ?_) | (with_reducible refine x_part ?_)
  | (with_reducible refine x_andV ?_) | (with_reducible refine x_orV ?_) | (with_reducible refine x_notV ?_) | (with_reducible refine x_if ?_) | (with_reducible refine x_test ?_) | (with_reducible refine x_tb ?_)
  | (with_reducible refine x_and ?_) | (with_reducible refine x_or ?_) | (with_reducible refine x_not ?_) | (with_reducible refine x_chain ?_) | (with_reducible refine x_exbl ?_) | (with_reducible refine x_exint ?_)
  | (with_reducible refine x_fld ?_) | (with_reducible refine x_sfld ?_) | (with_reducible refine x_par ?_) | (with_reducible refine x_par3 ?_) | (with_reducible refine x_dget ?_) | (with_reducible refine x_dput ?_)
  | (with_reducible refine x_bm ?_) | (with_reducible refine x_bm0 ?_) | (with_reducible refine x_pair ?_) | (with_reducible refine x_tri ?_) | (with_reducible refine x_int ?_) | (with_reducible refine x_intb ?_) | (with_reducible refine x_abs ?_) | (with_reducible refine x_isN ?_) | (with_reducible refine x_notN ?_) | (with_reducible refine x_meth ?_) | (with_reducible refine x_make ?_)
  | (with_reducible refine x_ite1 ?_) | (with_reducible refine x_ite0 ?_)
  | (with_reducible refine x_addi ?_) | (with_reducible refine x_neg ?_) | (with_reducible refine x_i0 ?_) | (with_reducible refine x_eqi ?_) | (with_reducible refine x_eqs ?_) | (with_reducible refine x_eqb ?_) | (with_reducible refine x_nei ?_) | (with_reducible refine x_lti ?_)
  | (with_reducible refine x_forL ?_) | (with_reducible refine x_forT ?_) | (with_reducible refine x_forR ?_) | (with_reducible refine x_forR2 ?_) | (with_reducible refine x_lcL ?_) | (with_reducible refine x_lcT ?_) | (with_reducible refine x_lcR ?_)
  | (with_reducible refine x_yes ?_) | (with_reducible refine x_pcons ?_) | (with_reducible refine x_pnil ?_) | (with_reducible refine x_gcons ?_) | (with_reducible refine x_gnil ?_) | (with_reducible refine x_gattr ?_) | (with_reducible refine x_raise ?_) | (with_reducible refine x_gsub ?_) | (with_reducible refine x_fldaug ?_) | (with_reducible refine x_radd ?_) | (with_reducible refine x_ipi ?_) | ((with_reducible refine x_aug (x := ?vv) ?hh ?qq); (case hh => exact rfl))
  | ((with_reducible refine x_iteA ?hc ?q); (case hc => exact rfl)) | ((with_reducible refine x_iteB ?hc ?q); (case hc => exact rfl))
  | ((with_reducible refine x_var (v := ?vv) ?hh ?qq); (case hh => exact rfl))
  | ((with_reducible refine r_isInt (d := ?dd) ?hh ?qq); (case hh => assumption)) | ((with_reducible refine r_isBool (d := ?dd) ?hh ?qq); (case hh => assumption)) | ((with_reducible refine r_isTup (d := ?dd) ?hh ?qq); (case hh => assumption))
  | ((with_reducible refine r_isStr (d := ?dd) ?hh ?qq); (case hh => assumption)) | ((with_reducible refine r_isLst (d := ?dd) ?hh ?qq); (case hh => assumption))))
local macro_rules | `(tactic| walk_at "y") => `(tactic| (repeat (walk_at "y1")))
def lotsD (Ls : List (List Nat)) : List PyData := Ls.map fun ns => PyData.tuple (numsD ns)
theorem lotsD_to (Ls : List (List Nat)) : tupOnlyL (lotsD Ls) = true := tupOnlyL_iff.mpr fun d hd => by
  obtain ⟨ns, _, rfl⟩ := List.mem_map.mp hd
  refine tup_to fun x hx => ?_
  obtain ⟨n, _, rfl⟩ := List.mem_map.mp hx
  rfl
theorem asc_len' {ns : List Nat} {m : Nat} (h : Asc ns m) : ns.length ≤ m := by
  have := nodup_len (a := ns) (b := List.range m) (h.1.imp fun {a b} hl e => by subst e; exact Nat.lt_irrefl _ hl) fun x hx => List.mem_range.mpr (h.2 x hx)
  rw [List.length_range] at this
  exact this
theorem asc_more {ns : List Nat} {k m : Nat} (h : Asc ns k) (l : k ≤ m) : Asc ns m := ⟨h.1, fun n hn => Nat.lt_of_lt_of_le (h.2 n hn) l⟩
theorem asc_snoc2 {ns : List Nat} {k : Nat} (h : Asc ns k) : Asc (ns ++ [k]) (k + 1) := ⟨List.pairwise_append.mpr ⟨h.1, by simp, fun x hx y hy => by rw [List.mem_singleton.mp hy]; exact h.2 x hx⟩, fun x hx => by
  rcases List.mem_append.mp hx with z | z
  · have := h.2 x z; omega
  · rw [List.mem_singleton.mp z]; omega⟩
section
variable {P : Program} {w : World} {K : PySem.W.Frag} {mg : Str → Option Value} {base : Heap}
def spLots (K : PySem.W.Frag) : Sp := fun vs H Q _ => ∃ m : Nat, vs = [.int (m : Int)] ∧ m ≤ 5 ∧ ∀ p xs (Ls : List (List Nat)) H', Ex H H' → H p = none → H' p = some (.lst xs) → WtL K H' xs (lotsD Ls) → (∀ ns ∈ Ls, Asc ns m) → Ls.length ≤ 32 → Q (.ref p) H'
abbrev s_lots : Stmt := top 50
abbrev nms_lots : List Str := ["many", "lots", "k", "lot"]
theorem sc_lots : FnScope nms_lots ["many"] (defScope s_lots) := ⟨rfl, rfl, rfl, by decide +kernel, rfl, by decide +kernel, by decide +kernel⟩
theorem ok_lots {f : Addr} {fd : FuncData} (F : Fun K "_law_lots" "_law_lots" s_lots f fd) (hm : mg "_law_lots" = some (.ref f)) (b : Binds K fd ["many"] []) (T : Bt mg) : Cal P w K mg base 1 "_law_lots" (spLots K) := by
  refine cal_of F hm b sc_lots (fun vs H Q E h => ?_) (fun cdv A outer s H vs Q E hr h => ?_)
  · obtain ⟨m, rfl, _⟩ := h
    rfl
  · obtain ⟨m, rfl, m5, q⟩ := h
    have hu64 := pass_hu64 hr
    refine ⟨_, (pss_cons (ps_set (i := 1) sc_lots.nd rfl (by first | exact Or.inl rfl | exact Or.inr rfl) (pe_lst (pa_cons (pe_tup pa_nil) pa_nil)))
    (pss_cons (ps_for (passes_of rfl) rfl (pi_range1 (by rfl) T.range (pa_cons (pv 0) pa_nil)) (pg_name (i := 2) sc_lots.nd rfl (by first | exact Or.inl rfl | exact Or.inr rfl))
    (pss_one (ps_set (i := 1) sc_lots.nd rfl (by first | exact Or.inl rfl | exact Or.inr rfl) (pe_op (oAddK K) (pv 1) (pe_lc (own := [("lot", 3)]) rfl sc_lots.nd (pi_list (pv 1)) (blkOk_by (N := nms_lots) (sc := defScope s_lots) (by decide +kernel)) (fun _ _ _ _ _ => (pg_name (i := 3) sc_lots.nd rfl (by first | exact Or.inl rfl | exact Or.inr rfl))) (fun _ _ _ _ _ => pts_nil) (fun _ _ _ _ _ => (pe_op (oAddK K) (pv 3) (pe_tup (pa_cons (pv 2) pa_nil)))))))))
    (pss_one (ps_ret (pv 1))))), ?_⟩
    try dsimp only [cxOf]
    walk_at "y"
    refine x_mkt (K := K) .nil fun u1 H1 e1 w1 => ?_
    walk_at "y"
    refine x_mkl fun p2 H2 e2 n2 h2 => ?_
    walk_at "y"
    refine y_forR m (fun k σ' H' => Ex H H' ∧ ∃ (p : Addr) (xs : List V) (Ls : List (List Nat)) (o2 o3 : Option V), σ' = [some (.int (m : Int)), some (.ref p), o2, o3] ∧ H p = none ∧ H' p = some (.lst xs) ∧ WtL K H' xs (lotsD Ls) ∧ (∀ ns ∈ Ls, Asc ns k) ∧ Ls.length = 2 ^ k) (by omega) ⟨e1.trans e2, p2, [u1], [[]], _, _, rfl, e1.free n2, h2, .cons (w1.ex e2) .nil, (fun ns hns => by rw [List.mem_singleton.mp hns]; exact ⟨.nil, by simp⟩), rfl⟩ (fun k σ' H3 hk pp => ?_) fun σ' H3 pp => ?_
    · obtain ⟨ex, p, xs, Ls, o2, o3, rfl, np, hp, wp, asc, len⟩ := pp
      have l16 : Ls.length ≤ 16 := by
        rw [len]
        have : 2 ^ k ≤ 2 ^ 4 := Nat.pow_le_pow_right (by decide) (by omega)
        omega
      have lxs : xs.length = Ls.length := by rw [wp.len]; unfold lotsD; rw [List.length_map]
      walk_at "y"
      refine y_lcL [] (fun _ => True) (fun i ds => ds = lotsD ((Ls.take i).map fun ns => ns ++ [k])) hp (by simp) (by omega) (by simp) keeps_true trivial rfl (fun i x H4 ds hx g4 _ hds ok no hok hno => ?_) (fun E5 acc ds H5 n5 g5 _ h5 w5 t5 hds => ?_)
      · refine turn_name rfl ?_
        obtain ⟨d, hd, wd⟩ := wp.get hx
        unfold lotsD at hd
        rw [List.getElem?_map] at hd
        cases hL : Ls[i]? with
        | none => rw [hL] at hd; cases hd
        | some ns =>
          rw [hL] at hd
          cases hd
          have l2 := asc_len' (asc ns (List.mem_of_getElem? hL))
          walk_at "y"
          refine x_mkt (K := K) (.cons (.int _) .nil) fun u6 H6 e6 w6 => ?_
          refine x_addt (wd.ex (g4.ex.trans e6)) w6 (by unfold numsD; simp; omega) fun v7 H7 e7 w7 => ?_
          have e : numsD ns ++ [PyData.int (k : Int)] = numsD (ns ++ [k]) := by unfold numsD; rw [List.map_append]; rfl
          rw [e] at w7
          refine hok v7 _ H7 (e6.trans e7).go trivial w7 (tup_to fun x hx => by
            obtain ⟨n, _, rfl⟩ := List.mem_map.mp hx
            rfl) ?_
          dsimp only
          rw [hds, take_snoc hL, List.map_append]
          unfold lotsD
          rw [List.map_append]
          rfl
      · have ex5 := g5.ex
        rw [lxs, List.take_length] at hds
        subst hds
        refine x_addl (ex5 _ _ hp) h5 (by
          rw [lxs, w5.len]
          unfold lotsD
          rw [List.length_map, List.length_map]
          omega) fun p6 H6 e6 n6 h6 => ?_
        walk_at "y"
        refine ⟨ex.trans (ex5.trans e6), p6, _, Ls ++ Ls.map (fun ns => ns ++ [k]), _, _, rfl, (ex.trans ex5).free n6, h6, ?_, fun ns hns => ?_, ?_⟩
        · unfold lotsD at wp w5 ⊢
          rw [List.map_append]
          exact ((wp.ex ex5).append w5).ex e6
        · rcases List.mem_append.mp hns with z | z
          · exact asc_more (asc ns z) (Nat.le_succ k)
          · obtain ⟨ms, hms, rfl⟩ := List.mem_map.mp z
            exact asc_snoc2 (asc ms hms)
        · rw [List.length_append, List.length_map, len, Nat.pow_succ]
          omega
    · obtain ⟨ex, p, xs, Ls, o2, o3, rfl, np, hp, wp, asc, len⟩ := pp
      walk_at "y"
      refine q p xs Ls H3 ex np hp wp asc ?_
      rw [len]
      have : 2 ^ m ≤ 2 ^ 5 := Nat.pow_le_pow_right (by decide) m5
      omega
/-! ### refused -/
def sizesD : List PyData := [.int 2, .int 3, .int 0, .int 5, .int 63, .int 65, .int 66, .int (-4), .bool true, .none, .str "4", .tuple [.int 4]]
theorem sizesD_no : ∀ d ∈ sizesD, isSizeD d = false ∧ noTri d = true := by decide +kernel
def slotsD (m : Nat) : List PyData := [.int (-1), .int m, .bool true, .none, .str "0", .int (10 ^ 20)]
theorem slotsD_no {m : Nat} (h : m ≤ 64) : ∀ d ∈ slotsD m, BadSlot d m ∧ noTri d = true := by
  intro d hd
  simp only [slotsD, List.mem_cons, List.not_mem_nil, or_false] at hd
  rcases hd with rfl | rfl | rfl | rfl | rfl | rfl
  · exact ⟨.inl rfl, rfl⟩
  · exact ⟨.inr ⟨m, rfl, Nat.le_refl _⟩, rfl⟩
  · exact ⟨.inl rfl, rfl⟩
  · exact ⟨.inl rfl, rfl⟩
  · exact ⟨.inl rfl, rfl⟩
  · exact ⟨.inr ⟨10 ^ 20, rfl, by omega⟩, rfl⟩
def badLots (c : Nat) : List PyData := [.tuple [.int c], .tuple [.int (-1)], .tuple [.int 0, .int 0], .tuple [.int 1, .int 0], .none, .int 3, .tuple [.bool true], .tuple [.str "0"], .list [.int c], .str "0", .bool true]
theorem badLots_no (c : Nat) : ∀ d ∈ badLots c, lotD d c = none ∧ noTri d = true := by
  intro d hd
  have k0 : lotL c (-1) [.int (c : Int)] = none := lot_out fun z => Nat.lt_irrefl _ z.2
  have k1 : ∀ ab : Int, 0 ≤ ab → lotL c ab [.int 0] = none := fun ab h => lot_out (n := 0) fun z => by have := z.1; omega
  have two : ∀ n : Nat, lotL c (-1) [.int (n : Int), .int 0] = none := fun n => by
    by_cases h : n < c
    · rw [lot_in (by omega) h, k1 _ (by omega)]
      rfl
    · exact lot_out fun z => h z.2
  simp only [badLots, List.mem_cons, List.not_mem_nil, or_false] at hd
  rcases hd with rfl | rfl | rfl | rfl | rfl | rfl | rfl | rfl | rfl | rfl | rfl
  · exact ⟨k0, rfl⟩
  · exact ⟨show lotL c (-1) [.int (-1)] = none from lot_not rfl, rfl⟩
  · exact ⟨two 0, rfl⟩
  · exact ⟨two 1, rfl⟩
  · exact ⟨rfl, rfl⟩
  · exact ⟨rfl, rfl⟩
  · exact ⟨rfl, rfl⟩
  · exact ⟨rfl, rfl⟩
  · exact ⟨k0, rfl⟩
  · exact ⟨rfl, rfl⟩
  · exact ⟨rfl, rfl⟩
theorem ev_pow {K : PySem.W.Frag} {σ : L2.St} {H : Hp} : EvD K σ H (tOp (rI CPow fun i j => .int (i ^ j.toNat)) (tC (.int 10)) (tC (.int 20))) (.int (10 ^ 20)) := fun H1 e Q q => x_op (x_c (x_c (x_iC ⟨by decide, by decide, by decide⟩ (q _ H1 (Ex.refl _) (.int _)))))
theorem box_lst {K : PySem.W.Frag} {b l : Addr} {H : Hp} {xs : List V} {ds : List PyData} (hb : BoxAt b H) (e : H l = some (.lst xs)) (w : WtL K H xs ds) (n : ds.length ≠ 3) : b ≠ l := fun z => by
  obtain ⟨i, j, k, eb⟩ := hb
  rw [z, e] at eb
  cases eb
  exact n w.len.symm
/-- one of a list of written things -/
theorem x_pickEv {K : PySem.W.Frag} {σ : L2.St} {H : Hp} {Q : VK} {b : Addr} {ta : TA} {ds : List PyData} (h0 : σ[0]? = some (some (.ref b))) (hb : BoxAt b H) (ev : EvA K σ H ta ds) (hl : ds.length ≠ 3) (h1 : 0 < ds.length) (h2 : ds.length ≤ 20) (tr : ∀ d ∈ ds, noTri d = true)
    (q : ∀ x d H', Go [b] H H' → BoxAt b H' → d ∈ ds → Wt K H' x d → Q x H') : tCall spPick [] E0 (tCons (tVar 0) (tCons (tLst ta) tNil)) σ H Q := by
  refine x_call (x_cons (x_var h0 (x_cons ?_)))
  refine ev_lst (K := K) ev (by omega) H (Ex.refl _) _ fun v H2 e2 w2 => ?_
  cases w2 with
  | @lst l xs _ el wl =>
    have hb2 := hb.go e2.go (S := []) (by simp)
    have lx : xs.length = ds.length := wl.len
    refine x_nil ⟨b, l, xs, rfl, hb2, el, box_lst hb2 el wl hl, by omega, by omega, fun i x H3 hx g3 hb3 => ?_⟩
    obtain ⟨d, hd, wd⟩ := wl.get hx
    have m := List.mem_of_getElem? hd
    exact q x d H3 (e2.go.trans g3) hb3 m (wd.aside g3 (fun s hs => by rw [List.mem_singleton.mp hs]; exact .inl hb2) (tr d m))
def spDiskRefused (K : PySem.W.Frag) (TT : List (Addr × Str)) (C : Addr) : Sp := fun vs H Q _ => ∃ (b d : Addr) (m c : Nat) (sl sf : List PyData) (pu : List (Nat × PyData)), vs = [.ref b, .ref d, .int (m : Int), .int (c : Int)] ∧ BoxAt b H ∧ DiskAt K C d sl sf pu H ∧ DOk sl sf pu ∧ sl.length = m ∧ sf.length ≤ 64 ∧ m ≤ 64 ∧ pu.length = c ∧ Tabs TT H ∧
  ∀ H', GoT [b] H H' → Tabs TT H' → BoxAt b H' → Q (.bl true) H'
abbrev s_disk_refused : Stmt := top 51
abbrev nms_disk_refused : List Str := ["box", "disk", "many", "count", "size", "slot", "lot"]
theorem sc_disk_refused : FnScope nms_disk_refused ["box", "disk", "many", "count"] (defScope s_disk_refused) := ⟨rfl, rfl, rfl, by decide +kernel, rfl, by decide +kernel, by decide +kernel⟩
theorem ok_disk_refused {f c Pt C : Addr} {fd : FuncData} {TT : List (Addr × Str)} (ER : Ers P K mg) (EK : ExK P K mg ER) (D : DiskC K C) (F : Fun K "_law_disk_refused" "_law_disk_refused" s_disk_refused f fd) (hcd : fd.code = .ref c) (TB : TabB base mg c Pt) (hmT : (Pt, qLam "_law_disk_refused" (defScope s_disk_refused)) ∈ TT) (huT : ∀ p ∈ TT, p.1 = Pt → p.2 = qLam "_law_disk_refused" (defScope s_disk_refused)) (hm : mg "_law_disk_refused" = some (.ref f)) (b : Binds K fd ["box", "disk", "many", "count"] []) (T : Bt mg)
    {gH : Addr} {fdH : FuncData} (FH : Fun K "_law_heard" "_law_heard" s_heard gH fdH) (hmH : mg "_law_heard" = some (.ref gH)) (bH : Binds K fdH ["work"] [])
    (c_pick : Cal P w K mg base 2 "_law_pick" spPick) (c_same : Cal P w K mg base 10 "_law_same" (spSame K 10)) (cDisk : Mak P w K mg base 3 "Disk" C (spDiskInit P K mg ER C)) (m_Disk_put : Met P w K mg base 2 C "put" (spPut P K mg ER C)) (m_Disk_fall : Met P w K mg base 3 C "fall" (spFall P K mg ER C)) :
    Cal P w K mg base 12 "_law_disk_refused" (spDiskRefused K TT C) := by
  have FHk := FH.kp
  obtain ⟨ocH, odH, kVH, docH, pmH, anH, cdvH, ctH, oslH, rfl, lkH, hcdH⟩ := FH.ex
  refine cal_ofC F hm b sc_disk_refused (fun vs H Q E h => ?_) (fun cdv hcdv A outer s H vs Q E hr h => ?_)
  · obtain ⟨b, d, m, c, sl, sf, pu, rfl, _⟩ := h
    rfl
  · obtain ⟨b, d, m, c, sl, sf, pu, rfl, hb, hd, ok, hsl, hsf, m64, hpu, hT, q⟩ := h
    have hu64 := pass_hu64 hr
    have hcode : cdv = .ref _ := hcdv.symm.trans hcd
    refine ⟨_, (pss_cons (ps_asg (pe_tup (pa_cons (pe_c c_pick hr (by decide) (by rfl) (pa_cons (pv 0) (pa_cons (pe_lst (pa_cons pe_int (pa_cons pe_int (pa_cons pe_int (pa_cons pe_int (pa_cons pe_int (pa_cons pe_int (pa_cons pe_int (pa_cons (pe_un un_neg pe_int) (pa_cons pe_bl (pa_cons pe_non (pa_cons pe_str (pa_cons (pe_tup (pa_cons pe_int pa_nil)) pa_nil))))))))))))) pa_nil))) (pa_cons (pe_c c_pick hr (by decide) (by rfl) (pa_cons (pv 0) (pa_cons (pe_lst (pa_cons (pe_un un_neg pe_int) (pa_cons (pv 2) (pa_cons pe_bl (pa_cons pe_non (pa_cons pe_str (pa_cons (pe_op op_pow pe_int pe_int) pa_nil))))))) pa_nil))) pa_nil))) (pg_tup (n := 2) rfl (pgs_cons (pg_name (i := 4) sc_disk_refused.nd rfl (by first | exact Or.inl rfl | exact Or.inr rfl)) (pgs_cons (pg_name (i := 5) sc_disk_refused.nd rfl (by first | exact Or.inl rfl | exact Or.inr rfl)) pgs_nil))))
    (pss_cons (ps_set (i := 6) sc_disk_refused.nd rfl (by first | exact Or.inl rfl | exact Or.inr rfl) (pe_c c_pick hr (by decide) (by rfl) (pa_cons (pv 0) (pa_cons (pe_lst (pa_cons (pe_tup (pa_cons (pv 3) pa_nil)) (pa_cons (pe_tup (pa_cons (pe_un un_neg pe_int) pa_nil)) (pa_cons (pe_tup (pa_cons pe_int (pa_cons pe_int pa_nil))) (pa_cons (pe_tup (pa_cons pe_int (pa_cons pe_int pa_nil))) (pa_cons pe_non (pa_cons pe_int (pa_cons (pe_tup (pa_cons pe_bl pa_nil)) (pa_cons (pe_tup (pa_cons pe_str pa_nil)) (pa_cons (pe_lst (pa_cons (pv 3) pa_nil)) (pa_cons pe_str (pa_cons pe_bl pa_nil)))))))))))) pa_nil))))
    (pss_cons (ps_if (pt_not (pt_val (pe_c c_same hr (by decide) (by rfl) (pa_cons (lamT (k := 8) (T := TT) (by rfl) hmH FHk lkH hcdH bH sc_heard rfl (Or.inl rfl) (heard_gives ER EK ER.cN "number" (-1) HeardOk.number) TB hcode hmT huT (hr.mono (by decide)) (lamS_by (sc := defScope s_disk_refused) (by decide +kernel)) rfl (fun _ _ _ _ _ => rfl) (fun A2 outer2 s2 H2 E2 f2 c2 hr2 => (pe_mkX cDisk hr2 (by decide) (passes_call (takes_of rfl rfl rfl rfl) (fun _ _ _ _ h => h)) (by rfl) (pa_cons (pv 4) pa_nil)))) (pa_cons (pe_tup (pa_cons pe_str (pa_cons (pe_un un_neg pe_int) pa_nil))) pa_nil)))))
    (pss_one (ps_ret pe_bl))
    pss_nil)
    (pss_cons (ps_if (pt_not (pt_val (pe_c c_same hr (by decide) (by rfl) (pa_cons (lamT (k := 8) (T := TT) (by rfl) hmH FHk lkH hcdH bH sc_heard rfl (Or.inl rfl) (heard_gives ER EK ER.cS "slot" (-1) HeardOk.slot) TB hcode hmT huT (hr.mono (by decide)) (lamS_by (sc := defScope s_disk_refused) (by decide +kernel)) rfl (fun _ _ _ _ _ => rfl) (fun A2 outer2 s2 H2 E2 f2 c2 hr2 => (pe_mtX m_Disk_put hr2 (by decide) (passes_call (takes_of rfl rfl rfl rfl) (fun _ _ _ _ h => h)) (pv 1) (pa_cons (pv 5) (pa_cons (pe_tup (pa_cons pe_int pa_nil)) pa_nil))))) (pa_cons (pe_tup (pa_cons pe_str (pa_cons (pe_un un_neg pe_int) pa_nil))) pa_nil)))))
    (pss_one (ps_ret pe_bl))
    pss_nil)
    (pss_one (ps_ret (pe_c c_same hr (by decide) (by rfl) (pa_cons (lamT (k := 8) (T := TT) (by rfl) hmH FHk lkH hcdH bH sc_heard rfl (Or.inl rfl) (heard_gives ER EK ER.cL "lot" (-1) HeardOk.lot) TB hcode hmT huT (hr.mono (by decide)) (lamS_by (sc := defScope s_disk_refused) (by decide +kernel)) rfl (fun _ _ _ _ _ => rfl) (fun A2 outer2 s2 H2 E2 f2 c2 hr2 => (pe_mtX m_Disk_fall hr2 (by decide) (passes_call (takes_of rfl rfl rfl rfl) (fun _ _ _ _ h => h)) (pv 1) (pa_cons (pv 6) pa_nil)))) (pa_cons (pe_tup (pa_cons pe_str (pa_cons (pe_un un_neg pe_int) pa_nil))) pa_nil))))))))), ?_⟩
    try dsimp only [cxOf]
    have r0 : BT TT b H H := ⟨⟨fun _ _ _ h _ => h, fun _ _ h => h⟩, hb, hT⟩
    have nbd : b ≠ d := fun z => by
      obtain ⟨_, _, _, e⟩ := hb
      obtain ⟨_, _, _, _, e2, _⟩ := hd
      rw [z, e2] at e; cases e
    refine x_seq (x_asg (x_tup (x_cons ?_)))
    refine x_pickEv (K := K) (ds := sizesD) rfl hb ?_ (by decide) (by decide) (by decide) (fun d hd => (sizesD_no d hd).2) fun x1 d1 H1 g1 hb1 m1 w1 => ?_
    · exact ev_cons ev_int (ev_cons ev_int (ev_cons ev_int (ev_cons ev_int (ev_cons ev_int (ev_cons ev_int (ev_cons ev_int (ev_cons (ev_neg ev_int) (ev_cons ev_bl (ev_cons ev_none (ev_cons ev_str (ev_cons (ev_tup (ev_cons ev_int ev_nil)) ev_nil)))))))))))
    have r1 := r0.go g1 hb1
    refine x_cons ?_
    refine x_pickEv (K := K) (ds := slotsD m) rfl hb1 ?_ (by simp [slotsD]) (by simp [slotsD]) (by simp [slotsD]) (fun d hd => (slotsD_no m64 d hd).2) fun x2 d2 H2 g2 hb2 m2 w2 => ?_
    · exact ev_cons (ev_neg ev_int) (ev_cons (ev_var rfl (.int _)) (ev_cons ev_bl (ev_cons ev_none (ev_cons ev_str (ev_cons ev_pow ev_nil)))))
    have r2 := r1.go g2 hb2
    have w1 := r1.asd g2 (sizesD_no d1 m1).2 w1
    refine x_nil (x_mkr fun p3 H3 e3 n3 h3 => ?_)
    walk_at "y"
    refine x_gtup h3 rfl ?_
    walk_at "y1"
    walk_at "y1"
    walk_at "y1"
    walk_at "y1"
    walk_at "y1"
    have r3 := r2.ex e3
    dsimp only
    refine x_seq (x_asg ?_)
    refine x_pickEv (K := K) (ds := badLots c) rfl r3.bx ?_ (by simp [badLots]) (by simp [badLots]) (by simp [badLots]) (fun d hd => (badLots_no c d hd).2) fun x4 d4 H4 g4 hb4 m4 w4 => ?_
    · have vc : EvD K ((((L2.start nms_disk_refused [V.ref b, V.ref d, V.int (m : Int), V.int (c : Int)]).set 4 (some x1)).set 5 (some x2))) H3 (tVar 3) (.int (c : Int)) := ev_var rfl (.int _)
      refine ev_cons (ev_tup (ev_cons vc ev_nil)) (ev_cons (ev_tup (ev_cons (ev_neg ev_int) ev_nil)) (ev_cons (ev_tup (ev_cons ev_int (ev_cons ev_int ev_nil))) (ev_cons (ev_tup (ev_cons ev_int (ev_cons ev_int ev_nil))) (ev_cons ev_none (ev_cons ev_int ?_)))))
      exact ev_cons (ev_tup (ev_cons ev_bl ev_nil)) (ev_cons (ev_tup (ev_cons ev_str ev_nil)) (ev_cons (ev_lst (ev_cons vc ev_nil)) (ev_cons ev_str (ev_cons ev_bl ev_nil))))
    have r4 := r3.go g4 hb4
    have w1 := r3.asd g4 (sizesD_no d1 m1).2 (w1.ex e3)
    have w2 := r3.asd g4 (slotsD_no m64 d2 m2).2 (w2.ex e3)
    have G4 : Go [b] H H4 := (g1.trans g2).trans (e3.go.trans g4)
    have hd4 : DiskAt K C d sl sf pu H4 := hd.go ok G4 (by simp [Ne.symm nbd])
    walk_at "y"
    refine x_lam r4.tb fun H5 e5 tb5 => ?_
    have r5 := r4.exN e5 tb5
    have w1 := w1.exN e5
    have w2 := w2.exN e5
    have w4 := w4.exN e5
    have dexN : ∀ {Ha Hb : Hp}, ExtN Ha Hb → DiskAt K C d sl sf pu Ha → DiskAt K C d sl sf pu Hb := fun e h => by
      obtain ⟨dx, v1, v2, v3, ed, wa, wb, wc⟩ := h
      exact ⟨dx, v1, v2, v3, e _ _ ed (fun _ z => by cases z), wa.exN e, wb.exN e, wc.exN e⟩
    have hd5 := dexN e5 hd4
    try unfold THeard
    try dsimp only
    walk_at "y"
    refine fun xn dn hxn hdn hne => ?_
    have e6 : Ex H5 (upd (upd H5 dn (.own xn)) xn (.ins C dn [])) := (Ex.new hdn).trans (Ex.new (by rw [upd_ne (Ne.symm hne)]; exact hxn))
    have hx6 : (upd (upd H5 dn (.own xn)) xn (.ins C dn [])) xn = some (.ins C dn []) := upd_same
    revert e6 hx6
    generalize upd (upd H5 dn (.own xn)) xn (.ins C dn []) = H6
    intro e6 hx6
    refine ⟨xn, dn, x1, d1, rfl, hx6, w1.ex e6, .inl ⟨(sizesD_no d1 m1).1, errs_heard fun u7 H7 e7 w7 => ?_⟩⟩
    walk_at "y"
    refine x_mkt (K := K) (.cons (.str _) (.cons (.int _) .nil)) fun u8 H8 e8 w8 => ?_
    walk_at "y"
    refine ⟨u7, u8, _, rfl, w7.ex e8, w8, sm_word _ _, fun H9 e9 => ?_⟩
    have E9 := e6.trans ((e7.trans e8).trans e9)
    have r9 := r5.ex E9
    have hd9 := dexN (ExtN.of E9) hd5
    have w2 := w2.ex E9
    have w4 := w4.ex E9
    walk_at "y"
    refine x_lam r9.tb fun H10 e10 tb10 => ?_
    have r10 := r9.exN e10 tb10
    have w2 := w2.exN e10
    have w4 := w4.exN e10
    have hd10 := dexN e10 hd9
    try unfold THeard
    try dsimp only
    obtain ⟨dxd, va, vb, vc, ed, _⟩ := id hd10
    walk_at "y"
    refine x_kmeth ed rfl ?_
    walk_at "y"
    refine x_mkr fun p11 H11 e11 n11 h11 => ?_
    walk_at "y"
    refine ⟨d, x2, d2, .ref p11, .none, sl, sf, pu, rfl, dexN (ExtN.of e11) hd10, ok, w2.ex e11, .inl ⟨by rw [hsl]; exact (slotsD_no m64 d2 m2).1, errs_heard fun u12 H12 e12 w12 => ?_⟩⟩
    walk_at "y"
    refine x_mkt (K := K) (.cons (.str _) (.cons (.int _) .nil)) fun u13 H13 e13 w13 => ?_
    walk_at "y"
    refine ⟨u12, u13, _, rfl, w12.ex e13, w13, sm_word _ _, fun H14 e14 => ?_⟩
    have E14 := e11.trans ((e12.trans e13).trans e14)
    have r14 := r10.ex E14
    have hd14 := dexN (ExtN.of E14) hd10
    have w4 := w4.ex E14
    walk_at "y"
    refine x_lam r14.tb fun H15 e15 tb15 => ?_
    have r15 := r14.exN e15 tb15
    have w4 := w4.exN e15
    have hd15 := dexN e15 hd14
    try unfold THeard
    try dsimp only
    obtain ⟨dxd, va, vb, vc, ed, _⟩ := id hd15
    walk_at "y"
    refine x_kmeth ed rfl ?_
    walk_at "y"
    refine ⟨d, x4, d4, sl, sf, pu, rfl, hd15, ok, w4, hsf, ?_⟩
    rw [hpu, (badLots_no c d4 m4).1]
    refine errs_heard fun u16 H16 e16 w16 => ?_
    walk_at "y"
    refine x_mkt (K := K) (.cons (.str _) (.cons (.int _) .nil)) fun u17 H17 e17 w17 => ?_
    walk_at "y"
    refine ⟨u16, u17, _, rfl, w16.ex e17, w17, sm_word _ _, fun H18 e18 => ?_⟩
    have r18 := r15.ex ((e16.trans e17).trans e18)
    exact q H18 r18.g r18.tb r18.bx
end
end Y
/-! part F6 -/
/-! Disks behind puts, flushes and falls. -/
namespace Y
open PySem LamX L2
local macro_rules | `(tactic| walk_at "y1") => `(tactic| (first
  | (with_reducible refine x_seq ?_) | (with_reducible refine x_asg ?_) | (with_reducible refine x_name ?_) | (with_reducible refine x_drop ?_) | (with_reducible refine x_ret ?_) | (with_reducible refine x_retN ?_)
  | (with_reducible refine x_next ?_) | (with_reducible refine x_brk ?_) | (with_reducible refine x_ifS ?_)
  | (with_reducible refine x_c ?_) | (with_reducible refine x_op ?_) | (with_reducible refine x_un ?_) | (with_reducible refine x_cb ?_) | (with_reducible refine x_cons ?_) | (with_reducible refine x_nil ?_)
  | (with_reducible refine x_call ?_) | (with_reducible refine x_tup ?_) | (with_reducible refine x_lst ?_) | (with_reducible refine x_sl ?_) | (with_reducible refine x_nopart ?_) | (with_reducible refine x_part ?_)
  | (with_reducible refine x_andV ?_) | (with_reducible refine x_orV ?_) | (with_reducible refine x_notV ?_) | (with_reducible refine x_if ?_) | (with_reducible refine x_test ?_) | (with_reducible refine x_tb ?_)
  | (with_reducible refine x_and ?_) | (with_reducible refine x_or ?_) | (with_reducible refine x_not ?_) | (with_reducible refine x_chain ?_) | (with_reducible refine x_exbl ?_) | (with_reducible refine x_exint ?_)
  | (with_reducible refine x_fld ?_) | (with_reducible refine x_sfld ?_) | (with_reducible refine x_par ?_) | (with_reducible refine x_par3 ?_) | (with_reducible refine x_dget ?_) | (with_reducible refine x_dput ?_)
  | (with_reducible refine x_bm ?_) | (with_reducible refine x_bm0 ?_) | (with_reducible refine x_pair ?_) | (with_reducible refine x_tri ?_) | (with_reducible refine x_int ?_) | (with_reducible refine x_intb ?_) | (with_reducible refine x_abs ?_) | (with_reducible refine x_isN ?_) | (with_reducible refine x_notN ?_) | (with_reducible refine x_meth ?_) | (with_reducible refine x_make ?_)
  | (with_reducible refine x_ite1 ?_) | (with_reducible refine x_ite0 ?_)
  | (with_reducible refine x_addi ?_) | (with_reducible refine x_neg ?_) | (with_reducible refine x_i0 ?_) | (with_reducible refine x_eqi ?_) | (with_reducible refine x_eqs ?_) | (with_reducible refine x_eqb ?_) | (with_reducible refine x_nei ?_) | (with_reducible refine x_lti ?_)
  | (with_reducible refine x_forL ?_) | (with_reducible refine x_forT ?_) | (with_reducible refine x_forR ?_) | (with_reducible refine x_forR2 ?_) | (with_reducible refine x_lcL ?_) | (with_reducible refine x_lcT ?_) | (with_reducible refine x_lcR ?_)
  | (with_reducible refine x_yes ?_) | (with_reducible refine x_pcons ?_) | (with_reducible refine x_pnil ?_) | (with_reducible refine x_gcons ?_) | (with_reducible refine x_gnil ?_) | (with_reducible refine x_gattr ?_) | (with_reducible refine x_raise ?_) | (with_reducible refine x_gsub ?_) | (with_reducible refine x_fldaug ?_) | (with_reducible refine x_radd ?_) | (with_reducible refine x_ipi ?_) | ((with_reducible refine x_aug (x := ?vv) ?hh ?qq); (case hh => exact rfl))
  | ((with_reducible refine x_iteA ?hc ?q); (case hc => exact rfl)) | ((with_reducible refine x_iteB ?hc ?q); (case hc => exact rfl))
  | ((with_reducible refine x_var (v := ?vv) ?hh ?qq); (case hh => exact rfl))
  | ((with_reducible refine r_isInt (d := ?dd) ?hh ?qq); (case hh => assumption)) | ((with_reducible refine r_isBool (d := ?dd) ?hh ?qq); (case hh => assumption)) | ((with_reducible refine r_isTup (d := ?dd) ?hh ?qq); (case hh => assumption))
  | ((with_reducible refine r_isStr (d := ?dd) ?hh ?qq); (case hh => assumption)) | ((with_reducible refine r_isLst (d := ?dd) ?hh ?qq); (case hh => assumption))))
local macro_rules | `(tactic| walk_at "y") => `(tactic| (repeat (walk_at "y1")))
section
variable {P : Program} {w : World} {K : PySem.W.Frag} {mg : Str → Option Value} {base : Heap}
/-- what stands on a disk: small things -/
structure SD (m : Nat) (sl sf : List PyData) (pu : List (Nat × PyData)) : Prop where
  l1 : sl.length = m
  l2 : sf.length = m
  m1 : 4 ≤ m
  m2 : m ≤ 64
  s1 : ∀ d ∈ sl, Sm 4 d
  s2 : ∀ d ∈ sf, Sm 4 d
  s3 : ∀ p ∈ pu, Sm 4 p.2 ∧ p.1 < m
  lu : pu.length ≤ 100
section
variable {m : Nat} {sl sf : List PyData} {pu : List (Nat × PyData)}
theorem SD.ok (h : SD m sl sf pu) : DOk sl sf pu := ⟨fun d hd => (h.s1 d hd).to, fun d hd => (h.s2 d hd).to, fun p hp => ⟨(h.s3 p hp).1.to, by rw [h.l2]; exact (h.s3 p hp).2⟩⟩
theorem SD.put {n : Nat} {d : PyData} (h : SD m sl sf pu) (hn : n < m) (hd : Sm 4 d) (hl : pu.length < 100) : SD m (sl.set n d) sf (pu ++ [(n, d)]) := by
  refine ⟨by rw [List.length_set]; exact h.l1, h.l2, h.m1, h.m2, fun x hx => ?_, h.s2, fun p hp => ?_, by rw [List.length_append, List.length_singleton]; omega⟩
  · rcases List.mem_or_eq_of_mem_set hx with z | z
    · exact h.s1 x z
    · rw [z]; exact hd
  · rcases List.mem_append.mp hp with z | z
    · exact h.s3 p z
    · rw [List.mem_singleton.mp z]; exact ⟨hd, hn⟩
theorem SD.flush (h : SD m sl sf pu) : SD m sl sl [] := ⟨h.l1, h.l1, h.m1, h.m2, h.s1, h.s1, by simp, by simp⟩
theorem cutP_sm (hp : ∀ p ∈ pu, Sm 4 p.2) : ∀ (ns : List Nat) (sf : List PyData), (∀ d ∈ sf, Sm 4 d) → ∀ d ∈ cutP pu sf ns, Sm 4 d
  | [], sf, h => h
  | n :: ns, sf, h => by
    refine cutP_sm hp ns (putAt pu sf n) ?_
    cases e : pu[n]? with
    | none => rw [putAt_none e]; exact h
    | some p =>
      rw [putAt_some e]
      intro d hd
      rcases List.mem_or_eq_of_mem_set hd with z | z
      · exact h d z
      · rw [z]; exact hp p (List.mem_of_getElem? e)
theorem SD.cut (h : SD m sl sf pu) (ns : List Nat) : SD m (cutP pu sf ns) (cutP pu sf ns) [] := by
  have s := cutP_sm (fun p hp => (h.s3 p hp).1) ns sf h.s2
  exact ⟨by rw [cutP_len]; exact h.l2, by rw [cutP_len]; exact h.l2, h.m1, h.m2, s, s, by simp, by simp⟩
theorem SD.sm (h : SD m sl sf pu) : Sm 10 (.tuple sl) := (Sm.tup (by rw [h.l1]; have := h.m2; omega) (by decide) h.s1).mono (by decide)
theorem sm_putsD (h : ∀ p ∈ pu, Sm 4 p.2) (l : pu.length ≤ 100) : Sm 10 (.tuple (pu.map putD)) := (Sm.tup (n := 5) (by rw [List.length_map]; omega) (by decide) fun x hx => by
  obtain ⟨p, hp, rfl⟩ := List.mem_map.mp hx
  refine Sm.tup (n := 4) (by simp) (by decide) fun y hy => ?_
  simp only [List.mem_cons, List.not_mem_nil, or_false] at hy
  rcases hy with rfl | rfl
  · exact (sm_int _).mono (by decide)
  · exact h p hp).mono (by decide)
theorem sd_rep {m : Nat} (h : SizeOk m) : SD m (List.replicate m (.tuple [])) (List.replicate m (.tuple [])) [] := by
  have s : ∀ d ∈ List.replicate m (PyData.tuple []), Sm 4 d := fun d hd => by
    rw [(List.mem_replicate.mp hd).2]
    exact ⟨rfl, rfl, by show 1 < 4; decide⟩
  exact ⟨by simp, by simp, h.1, h.2.1, s, s, by simp, by simp⟩
end
/-- a disk and an own one alike, made behind Hb -/
structure DS (K : PySem.W.Frag) (C : Addr) (Hb : Hp) (b d dd ls lf lp : Addr) (m : Nat) (sl sf : List PyData) (pu : List (Nat × PyData)) (H : Hp) : Prop where
  g : Go [b] Hb H
  bx : BoxAt b H
  dk : DiskAt K C d sl sf pu H
  ld : LDiskD K dd ls lf lp sl sf pu H
  sd : SD m sl sf pu
  fr : Hb d = none ∧ Hb dd = none ∧ Hb ls = none ∧ Hb lf = none ∧ Hb lp = none
  b0 : Hb b ≠ none
section
variable {C b d dd ls lf lp : Addr} {Hb H H' H'' : Hp} {m : Nat} {sl sf : List PyData} {pu : List (Nat × PyData)}
theorem ins_lst {x : Addr} {xs : List V} (h : DiskAt K C d sl sf pu H) (e : H x = some (.lst xs)) : x ≠ d := fun z => by
  obtain ⟨_, _, _, _, e2, _⟩ := h
  rw [z, e2] at e; cases e
theorem ins_dK {x : Addr} {kvs : List (L2.Key × V)} (h : DiskAt K C d sl sf pu H) (e : H x = some (.dK kvs)) : x ≠ d := fun z => by
  obtain ⟨_, _, _, _, e2, _⟩ := h
  rw [z, e2] at e; cases e
/-- an own disk beside a change of d -/
theorem ld_d {sl' sf' : List PyData} {pu' : List (Nat × PyData)} (h : LDiskD K dd ls lf lp sl sf pu H) (o : DOk sl sf pu) (hd : DiskAt K C d sl' sf' pu' H) (g : Go [d] H H') : LDiskD K dd ls lf lp sl sf pu H' := by
  obtain ⟨_, e1, _⟩ := h.s
  obtain ⟨_, e2, _⟩ := h.f
  obtain ⟨_, e3, _⟩ := h.p
  exact h.go o g ⟨by simp [ins_dK hd h.d], by simp [ins_lst hd e1], by simp [ins_lst hd e2], by simp [ins_lst hd e3]⟩
theorem DS.nb (r : DS K C Hb b d dd ls lf lp m sl sf pu H) : b ≠ d ∧ b ≠ dd ∧ b ≠ ls ∧ b ≠ lf ∧ b ≠ lp :=
  ⟨fun z => r.b0 (z ▸ r.fr.1), fun z => r.b0 (z ▸ r.fr.2.1), fun z => r.b0 (z ▸ r.fr.2.2.1), fun z => r.b0 (z ▸ r.fr.2.2.2.1), fun z => r.b0 (z ▸ r.fr.2.2.2.2)⟩
theorem DS.free (r : DS K C Hb b d dd ls lf lp m sl sf pu H) {x : Addr} (h : H x = none) : Hb x = none := go_free r.g (fun s hs => by rw [List.mem_singleton.mp hs]; exact box_ne r.bx) h
theorem DS.ex (r : DS K C Hb b d dd ls lf lp m sl sf pu H) (e : Ex H H') : DS K C Hb b d dd ls lf lp m sl sf pu H' :=
  ⟨r.g.trans e.go, r.bx.go e.go (S := []) (by simp), r.dk.go r.sd.ok e.go (S := []) (by simp), r.ld.go r.sd.ok e.go (L := []) (by simp), r.sd, r.fr, r.b0⟩
theorem DS.put {n : Nat} {e : PyData} (r : DS K C Hb b d dd ls lf lp m sl sf pu H) (hn : n < m) (he : Sm 4 e) (hl : pu.length < 100) (g1 : Go [d] H H') (h1 : DiskAt K C d (sl.set n e) sf (pu ++ [(n, e)]) H') (g2 : Go [ls, lp] H' H'') (h2 : LDiskD K dd ls lf lp (sl.set n e) sf (pu ++ [(n, e)]) H'') :
    DS K C Hb b d dd ls lf lp m (sl.set n e) sf (pu ++ [(n, e)]) H'' := by
  have nb := r.nb
  have sd' := r.sd.put hn he hl
  have ld1 := ld_d r.ld r.sd.ok r.dk g1
  obtain ⟨_, e1, _⟩ := ld1.s
  obtain ⟨_, e3, _⟩ := ld1.p
  refine ⟨go_out (go_out r.g g1 fun s hs => .inr (by rw [List.mem_singleton.mp hs]; exact r.fr.1)) g2 fun s hs => .inr ?_, (r.bx.go g1 (by simp [nb.1])).go g2 (by simp [nb.2.2.1, nb.2.2.2.2]), h1.go sd'.ok g2 ?_, h2, sd', r.fr, r.b0⟩
  · simp only [List.mem_cons, List.not_mem_nil, or_false] at hs
    rcases hs with rfl | rfl
    · exact r.fr.2.2.1
    · exact r.fr.2.2.2.2
  · simp only [List.mem_cons, List.not_mem_nil, or_false, not_or]
    exact ⟨fun z => ins_lst h1 e1 z.symm, fun z => ins_lst h1 e3 z.symm⟩
theorem DS.flush {lf' lp' : Addr} (r : DS K C Hb b d dd ls lf lp m sl sf pu H) (g1 : Go [d] H H') (h1 : DiskAt K C d sl sl [] H') (g2 : Go [dd] H' H'') (n1 : H' lf' = none) (n2 : H' lp' = none) (h2 : LDiskD K dd ls lf' lp' sl sl [] H'') :
    DS K C Hb b d dd ls lf' lp' m sl sl [] H'' := by
  have nb := r.nb
  have ld1 := ld_d r.ld r.sd.ok r.dk g1
  have G1 := go_out r.g g1 fun s hs => .inr (by rw [List.mem_singleton.mp hs]; exact r.fr.1)
  have bx1 := r.bx.go g1 (by simp [nb.1])
  have fre : ∀ x, H' x = none → Hb x = none := fun x hx => go_free G1 (fun s hs => by rw [List.mem_singleton.mp hs]; exact box_ne bx1) hx
  exact ⟨go_out G1 g2 fun s hs => .inr (by rw [List.mem_singleton.mp hs]; exact r.fr.2.1), bx1.go g2 (by simp [nb.2.1]), h1.go r.sd.flush.ok g2 (by simp [Ne.symm (ins_dK h1 ld1.d)]), h2, r.sd.flush, ⟨r.fr.1, r.fr.2.1, r.fr.2.2.1, fre _ n1, fre _ n2⟩, r.b0⟩
end
theorem wt_goT {S : List Addr} {H H' : Hp} {v : V} {d : PyData} (g : GoT S H H') (t : tupOnly d = true) (wv : Wt K H v d) : Wt K H' v d := by
  obtain ⟨H1, g1, e1⟩ := g.split
  exact (wv.go g1 t).exN e1
theorem wtl_goT {S : List Addr} {H H' : Hp} {vs : List V} {ds : List PyData} (g : GoT S H H') (t : tupOnlyL ds = true) (wv : WtL K H vs ds) : WtL K H' vs ds := by
  obtain ⟨H1, g1, e1⟩ := g.split
  exact (wv.go g1 t).exN e1
theorem DiskAt.goT {S : List Addr} {C d : Addr} {sl sf : List PyData} {pu : List (Nat × PyData)} {H H' : Hp} (h : DiskAt K C d sl sf pu H) (o : DOk sl sf pu) (g : GoT S H H') (n : d ∉ S) : DiskAt K C d sl sf pu H' := by
  obtain ⟨H1, g1, e1⟩ := g.split
  obtain ⟨dx, v1, v2, v3, ed, wa, wb, wc⟩ := h.go o g1 n
  exact ⟨dx, v1, v2, v3, e1 _ _ ed (fun _ z => by cases z), wa.exN e1, wb.exN e1, wc.exN e1⟩
theorem LDiskD.goT {S : List Addr} {dd ls lf lp : Addr} {sl sf : List PyData} {pu : List (Nat × PyData)} {H H' : Hp} (h : LDiskD K dd ls lf lp sl sf pu H) (o : DOk sl sf pu) (g : GoT S H H') (n : dd ∉ S ∧ ls ∉ S ∧ lf ∉ S ∧ lp ∉ S) : LDiskD K dd ls lf lp sl sf pu H' := by
  obtain ⟨H1, g1, e1⟩ := g.split
  have h1 := h.go o g1 n
  obtain ⟨xs, a1, w1⟩ := h1.s
  obtain ⟨ys, a2, w2⟩ := h1.f
  obtain ⟨zs, a3, w3⟩ := h1.p
  exact ⟨e1 _ _ h1.d (fun _ z => by cases z), ⟨xs, e1 _ _ a1 (fun _ z => by cases z), w1.exN e1⟩, ⟨ys, e1 _ _ a2 (fun _ z => by cases z), w2.exN e1⟩, ⟨zs, e1 _ _ a3 (fun _ z => by cases z), w3.exN e1⟩, h1.n1, h1.n2, h1.n3⟩
theorem x_mkDisk {mg : Str → Option Value} {ER : Ers P K mg} {C : Addr} {m : Nat} {H : Hp} {Q : VK} {E : XK} (hm : SizeOk m) (q : ∀ d H', Ex H H' → H d = none → DiskAt K C d (List.replicate m (.tuple [])) (List.replicate m (.tuple [])) [] H' → Q (.ref d) H') : kMake C (spDiskInit P K mg ER C) E [.int (m : Int)] H Q := by
  refine fun xn dn hxn hdn hne => ?_
  have e1 : Ex H (upd (upd H dn (.own xn)) xn (.ins C dn [])) := (Ex.new hdn).trans (Ex.new (by rw [upd_ne (Ne.symm hne)]; exact hxn))
  exact ⟨xn, dn, .int (m : Int), .int (m : Int), rfl, upd_same, .int _, .inr ⟨m, rfl, hm, fun H' g h => ⟨rfl, q xn H' (ex_of_go e1 hxn g) hxn h⟩⟩⟩
theorem nums_wt {H : Hp} {v : V} {ns : List Nat} (h : Wt K H v (.tuple (numsD ns))) : ∃ a, v = .ref a ∧ H a = some (.tup (nums ns)) := by
  cases h with
  | @tup a xs _ e w => exact ⟨a, rfl, by rw [e, nums_of w]⟩
theorem put_wt {H : Hp} {v : V} {p : Nat × PyData} (h : Wt K H v (putD p)) : ∃ a y, v = .ref a ∧ H a = some (.tup [.int (p.1 : Int), y]) ∧ Wt K H y p.2 := by
  cases h with
  | @tup a xs _ e w =>
    cases w with
    | cons w1 w =>
      cases w with
      | cons w2 w =>
        cases w
        cases w1
        exact ⟨a, _, rfl, e, w2⟩
def spDisks (K : PySem.W.Frag) (TT : List (Addr × Str)) : Sp := fun vs H Q _ => ∃ (b : Addr) (m : Nat), vs = [.ref b, .int (m : Int)] ∧ BoxAt b H ∧ SizeOk m ∧ Tabs TT H ∧ ∀ H', GoT [b] H H' → Tabs TT H' → BoxAt b H' → Q (.bl true) H'
abbrev s_disks : Stmt := top 52
abbrev nms_disks : List Str := ["box", "many", "before", "places", "puts", "lot", "disk", "own", "slot", "entry", "k"]
theorem sc_disks : FnScope nms_disks ["box", "many"] (defScope s_disks) := ⟨rfl, rfl, rfl, by decide +kernel, rfl, by decide +kernel, by decide +kernel⟩
theorem ok_disks {f C : Addr} {fd : FuncData} {TT : List (Addr × Str)} (ER : Ers P K mg) (D : DiskC K C) (F : Fun K "_law_disks" "_law_disks" s_disks f fd) (hm : mg "_law_disks" = some (.ref f)) (b : Binds K fd ["box", "many"] []) (T : Bt mg)
    (c_take : Cal P w K mg base 1 "_law_take" spTake) (c_pick : Cal P w K mg base 2 "_law_pick" spPick) (c_same : Cal P w K mg base 10 "_law_same" (spSame K 10)) (c_lots : Cal P w K mg base 1 "_law_lots" (spLots K)) (c_disk : Cal P w K mg base 1 "_law_disk" (spDiskL K)) (c_put : Cal P w K mg base 1 "_law_put" (spPutD K)) (c_safe : Cal P w K mg base 1 "_law_safe" (spSafeD K)) (c_cut : Cal P w K mg base 1 "_law_cut" (spCutD K)) (c_disk_refused : Cal P w K mg base 12 "_law_disk_refused" (spDiskRefused K TT C))
    (cDisk : Mak P w K mg base 3 "Disk" C (spDiskInit P K mg ER C)) (m_Disk_put : Met P w K mg base 2 C "put" (spPut P K mg ER C)) (m_Disk_flush : Met P w K mg base 1 C "flush" (spFlush K C)) (m_Disk_fall : Met P w K mg base 3 C "fall" (spFall P K mg ER C)) :
    Cal P w K mg base 13 "_law_disks" (spDisks K TT) := by
  refine cal_of F hm b sc_disks (fun vs H Q E h => ?_) (fun cdv A outer s H vs Q E hr h => ?_)
  · obtain ⟨b, m, rfl, _⟩ := h
    rfl
  · obtain ⟨b, m, rfl, hb, hm, hT, q⟩ := h
    have hu64 := pass_hu64 hr
    have hu1 : (A.deeper (PyProof.Rows.envOfC "_law_disks" (defScope s_disks) s.heap.objs.size f cdv)).units + 1 < cLine := by have := hr.un; omega
    refine ⟨_, (pss_cons (ps_if (PW.pt (pw_or (pt_not (pt_val (pe_c c_same hr (by decide) (by rfl) (pa_cons (pe_fld (pe_mk cDisk hr (by decide) (by rfl) (pa_cons (pv 1) pa_nil)) rfl) (pa_cons (pe_op op_repT (pe_tup (pa_cons (pe_tup pa_nil) pa_nil)) (pv 1)) pa_nil))))) (pw_or1 (pt_not (pt_val (pe_c c_same hr (by decide) (by rfl) (pa_cons (pe_fld (pe_mk cDisk hr (by decide) (by rfl) (pa_cons (pv 1) pa_nil)) rfl) (pa_cons (pe_tup pa_nil) pa_nil))))))))
    (pss_one (ps_ret pe_bl))
    pss_nil)
    (pss_cons (ps_setLc (i := 2) (own := [("k", 10)]) rfl sc_disks.nd rfl rfl (sw_true rfl rfl rfl (by decide +kernel)) (pi_range1 (by rfl) T.range (pa_cons (pe_c c_take hr (by decide) (by rfl) (pa_cons (pv 0) (pa_cons pe_int pa_nil))) pa_nil)) (blkOk_by (N := nms_disks) (sc := defScope s_disks) (by decide +kernel)) (fun _ _ _ _ _ => (pg_name (i := 10) sc_disks.nd rfl (by first | exact Or.inl rfl | exact Or.inr rfl))) (fun _ _ _ _ _ => pts_nil) (fun _ _ _ _ _ => (pe_tup (pa_cons (pe_c c_take hr (by decide) (by rfl) (pa_cons (pv 0) (pa_cons (pv 1) pa_nil))) (pa_cons (pe_tup (pa_cons pe_int (pa_cons (pv 10) pa_nil))) pa_nil)))))
    (pss_cons (ps_set (i := 3) sc_disks.nd rfl (by first | exact Or.inl rfl | exact Or.inr rfl) (pe_lst (pa_cons (pe_c c_take hr (by decide) (by rfl) (pa_cons (pv 0) (pa_cons (pv 1) pa_nil))) (pa_cons (pe_c c_take hr (by decide) (by rfl) (pa_cons (pv 0) (pa_cons (pv 1) pa_nil))) pa_nil))))
    (pss_cons (ps_setLc (i := 4) (own := [("k", 10)]) rfl sc_disks.nd rfl rfl (sw_true rfl rfl rfl (by decide +kernel)) (pi_range1 (by rfl) T.range (pa_cons (pe_c c_take hr (by decide) (by rfl) (pa_cons (pv 0) (pa_cons pe_int pa_nil))) pa_nil)) (blkOk_by (N := nms_disks) (sc := defScope s_disks) (by decide +kernel)) (fun _ _ _ _ _ => (pg_name (i := 10) sc_disks.nd rfl (by first | exact Or.inl rfl | exact Or.inr rfl))) (fun _ _ _ _ _ => pts_nil) (fun _ _ _ _ _ => (pe_tup (pa_cons (pe_c c_pick hr (by decide) (by rfl) (pa_cons (pv 0) (pa_cons (pv 3) pa_nil))) (pa_cons (pe_tup (pa_cons (pv 10) (pa_cons (pe_c c_pick hr (by decide) (by rfl) (pa_cons (pv 0) (pa_cons (pe_lst (pa_cons pe_str (pa_cons pe_non (pa_cons (pe_tup pa_nil) pa_nil)))) pa_nil))) pa_nil))) pa_nil)))))
    (pss_cons (ps_for (passes_of rfl) rfl (pi_list (pe_c c_lots hr (by decide) (by rfl) (pa_cons (pe_callB cLen (by rfl) T.len (by decide +kernel) (pa_cons (pv 4) pa_nil)) pa_nil))) (pg_name (i := 5) sc_disks.nd rfl (by first | exact Or.inl rfl | exact Or.inr rfl))
    (pss_cons (ps_par rfl sc_disks.nd (i := 6) (j := 7) rfl rfl (by decide) rfl rfl (pa_cons (pe_mk cDisk hr (by decide) (by rfl) (pa_cons (pv 1) pa_nil)) (pa_cons (pe_c c_disk hr (by decide) (by rfl) (pa_cons (pv 1) pa_nil)) pa_nil)) (by rfl))
    (pss_cons (ps_for (passes_of rfl) rfl (pi_list (pv 2)) (pg_tup (n := 2) rfl (pgs_cons (pg_name (i := 8) sc_disks.nd rfl (by first | exact Or.inl rfl | exact Or.inr rfl)) (pgs_cons (pg_name (i := 9) sc_disks.nd rfl (by first | exact Or.inl rfl | exact Or.inr rfl)) pgs_nil)))
    (pss_cons (ps_if (pt_cmpR op_notN1 (pe_mtX m_Disk_put hr (by decide) passL (pv 6) (pa_cons (pv 8) (pa_cons (pv 9) pa_nil))) pe_non (nomark _))
    (pss_one (ps_ret pe_bl))
    pss_nil)
    (pss_one (ps_expr (pe_c c_put hr (by decide) (by rfl) (pa_cons (pv 7) (pa_cons (pv 8) (pa_cons (pv 9) pa_nil))))))))
    (pss_cons (ps_if (pt_cmpR op_notN1 (pe_mt0X m_Disk_flush hr (by decide) passL (pv 6)) pe_non (nomark _))
    (pss_one (ps_ret pe_bl))
    pss_nil)
    (pss_cons (ps_expr (pe_c c_safe hr (by decide) (by rfl) (pa_cons (pv 7) pa_nil)))
    (pss_cons (ps_for (passes_of rfl) rfl (pi_list (pv 4)) (pg_tup (n := 2) rfl (pgs_cons (pg_name (i := 8) sc_disks.nd rfl (by first | exact Or.inl rfl | exact Or.inr rfl)) (pgs_cons (pg_name (i := 9) sc_disks.nd rfl (by first | exact Or.inl rfl | exact Or.inr rfl)) pgs_nil)))
    (pss_cons (ps_expr (pe_mtX m_Disk_put hr (by decide) passL (pv 6) (pa_cons (pv 8) (pa_cons (pv 9) pa_nil))))
    (pss_one (ps_expr (pe_c c_put hr (by decide) (by rfl) (pa_cons (pv 7) (pa_cons (pv 8) (pa_cons (pv 9) pa_nil))))))))
    (pss_cons (ps_if (pt_not (pt_val (pe_c c_disk_refused hr (by decide) (by rfl) (pa_cons (pv 0) (pa_cons (pv 6) (pa_cons (pv 1) (pa_cons (pe_callB cLen (by rfl) T.len (by decide +kernel) (pa_cons (pv 4) pa_nil)) pa_nil)))))))
    (pss_one (ps_ret pe_bl))
    pss_nil)
    (pss_cons (ps_if (PW.pt (pw_or (pt_not (pt_val (pe_c c_same hr (by decide) (by rfl) (pa_cons (pe_fld (pv 6) rfl) (pa_cons (pe_callTy cTuple (by rfl) T.tuple (by decide +kernel) (pa_cons (pe_dget hu1 (pv 7) pe_str (fun _ _ => rfl)) pa_nil)) pa_nil))))) (pw_or1 (pt_not (pt_val (pe_c c_same hr (by decide) (by rfl) (pa_cons (pe_fld (pv 6) rfl) (pa_cons (pe_callTy cTuple (by rfl) T.tuple (by decide +kernel) (pa_cons (pv 4) pa_nil)) pa_nil))))))))
    (pss_one (ps_ret pe_bl))
    pss_nil)
    (pss_cons (ps_if (pt_cmpR op_notN1 (pe_mtX m_Disk_fall hr (by decide) passL (pv 6) (pa_cons (pe_c c_pick hr (by decide) (by rfl) (pa_cons (pv 0) (pa_cons (pe_lst (pa_cons (pv 5) (pa_cons (pe_callTy cList (by rfl) T.list (by decide +kernel) (pa_cons (pv 5) pa_nil)) pa_nil))) pa_nil))) pa_nil)) pe_non (nomark _))
    (pss_one (ps_ret pe_bl))
    pss_nil)
    (pss_cons (ps_expr (pe_c c_cut hr (by decide) (by rfl) (pa_cons (pv 7) (pa_cons (pv 5) pa_nil))))
    (pss_cons (ps_if (PW.pt (pw_or (pt_not (pt_val (pe_c c_same hr (by decide) (by rfl) (pa_cons (pe_fld (pv 6) rfl) (pa_cons (pe_callTy cTuple (by rfl) T.tuple (by decide +kernel) (pa_cons (pe_dget hu1 (pv 7) pe_str (fun _ _ => rfl)) pa_nil)) pa_nil))))) (pw_or1 (pt_not (pt_val (pe_c c_same hr (by decide) (by rfl) (pa_cons (pe_fld (pv 6) rfl) (pa_cons (pe_tup pa_nil) pa_nil))))))))
    (pss_one (ps_ret pe_bl))
    pss_nil)
    (pss_cons (ps_expr (pe_mtX m_Disk_put hr (by decide) passL (pv 6) (pa_cons (pe_ix (oIxK K) (pv 3) pe_int (fun _ _ => rfl)) (pa_cons (pe_tup (pa_cons pe_int pa_nil)) pa_nil))))
    (pss_cons (ps_expr (pe_mtX m_Disk_fall hr (by decide) passL (pv 6) (pa_cons (pe_tup pa_nil) pa_nil)))
    (pss_one (ps_if (pt_not (pt_val (pe_c c_same hr (by decide) (by rfl) (pa_cons (pe_fld (pv 6) rfl) (pa_cons (pe_callTy cTuple (by rfl) T.tuple (by decide +kernel) (pa_cons (pe_dget hu1 (pv 7) pe_str (fun _ _ => rfl)) pa_nil)) pa_nil)))))
    (pss_one (ps_ret pe_bl))
    pss_nil)))))))))))))))
    (pss_one (ps_ret pe_bl))))))), ?_⟩
    try dsimp only [cxOf]
    have hm1 := hm.1
    have hm2 := hm.2.1
    have r0 : BT TT b H H := ⟨⟨fun _ _ _ h _ => h, fun _ _ h => h⟩, hb, hT⟩
    walk_at "y"
    refine x_mkDisk hm fun da H1 e1 na ha1 => ?_
    have sd0 := sd_rep hm
    obtain ⟨dx, v1, v2, v3, ed1, w1, _, _⟩ := ha1
    refine x_kfld ed1 D.ins.cl D.a_slots rfl ?_
    walk_at "y"
    refine x_mkt (K := K) .nil fun u2 H2 e2 w2 => ?_
    walk_at "y"
    refine x_mkr fun p3 H3 e3 n3 h3 => ?_
    walk_at "y"
    refine ⟨p3, (m : Int), [u2], rfl, rfl, SqT.of h3, by simp, by omega, by omega, by simp, fun p4 n4 => ?_⟩
    have e4 : Ex H3 (upd H3 p4 (.tup (List.replicate (m : Int).toNat [u2]).flatten)) := Ex.new n4
    have h4 : (upd H3 p4 (.tup (List.replicate (m : Int).toNat [u2]).flatten)) p4 = some (.tup (List.replicate m u2)) := by rw [upd_same, Int.toNat_natCast, flat_rep]
    revert e4 h4
    generalize upd H3 p4 (.tup (List.replicate (m : Int).toNat [u2]).flatten) = H4
    intro e4 h4
    walk_at "y"
    refine ⟨v1, .ref p4, .tuple (List.replicate m (.tuple [])), rfl, w1.ex (e2.trans (e3.trans e4)), .tup h4 (WtL.replicate (w2.ex (e3.trans e4)) m), sd0.sm, fun H5 e5 => ?_⟩
    walk_at "y"
    refine x_mkDisk hm fun db H6 e6 nb hb6 => ?_
    obtain ⟨dxb, va, vb, vc, edb, _, _, wc⟩ := hb6
    refine x_kfld edb D.ins.cl D.a_puts rfl ?_
    walk_at "y"
    refine x_mkt (K := K) .nil fun u7 H7 e7 w7 => ?_
    walk_at "y"
    refine ⟨vc, u7, .tuple [], rfl, wc.ex e7, w7, ⟨rfl, rfl, by show 1 < 10; decide⟩, fun H8 e8 => ?_⟩
    have E8 : Ex H H8 := e1.trans (e2.trans (e3.trans (e4.trans (e5.trans (e6.trans (e7.trans e8))))))
    have r8 := r0.ex E8
    walk_at "y"
    -- before
    refine ⟨b, 4, rfl, r8.bx, by decide, by decide, fun t9 H9 ht9 g9 hb9 => ?_⟩
    have r9 := r8.go g9 hb9
    walk_at "y"
    refine y_lcR (K := K) [b] (fun H' => BoxAt b H') (fun i ds => ∃ bef : List (Nat × PyData), ds = bef.map putD ∧ bef.length = i ∧ ∀ p ∈ bef, Sm 4 p.2 ∧ p.1 < m) t9 (by omega) (by intro z hz; rw [List.mem_singleton.mp hz]; exact box_ne r9.bx) (keeps_box r9.bx) r9.bx ⟨[], rfl, rfl, by simp⟩ (fun i Hd ds hi gd hbd hds ok no hok hno => ?_) (fun lbe xbe ds H10 n10 g10 hb10 h10 w10 t10 hds => ?_)
    · obtain ⟨bef, rfl, hlen, hbef⟩ := hds
      refine turn_name rfl ?_
      walk_at "y"
      refine ⟨b, m, rfl, hbd, by omega, by omega, fun n Hf hn gf hbf => ?_⟩
      walk_at "y"
      refine x_mkt (K := K) (.cons (.int _) (.cons (.int _) .nil)) fun u Hg eg wg => ?_
      walk_at "y"
      refine x_mkt (K := K) (.cons (.int (n : Int)) (.cons wg .nil)) fun v Hh eh wh => ?_
      have sm : Sm 4 (.tuple [.int 5, .int (i : Int)]) := (Sm.tup (n := 1) (by simp) (by decide) fun x hx => by
        simp only [List.mem_cons, List.not_mem_nil, or_false] at hx
        rcases hx with rfl | rfl <;> exact sm_int _).mono (by decide)
      refine hok v (putD (n, .tuple [.int 5, .int (i : Int)])) Hh (gf.trans (eg.trans eh).go) (hbf.go (eg.trans eh).go (S := []) (by simp)) wh (putD_to (p := (n, _)) sm.to) ⟨bef ++ [(n, .tuple [.int 5, .int (i : Int)])], by rw [List.map_append]; rfl, by rw [List.length_append, List.length_singleton, hlen], fun p hp => ?_⟩
      rcases List.mem_append.mp hp with z | z
      · exact hbef p z
      · rw [List.mem_singleton.mp z]; exact ⟨sm, hn⟩
    obtain ⟨bef, rfl, lbef, hbef⟩ := hds
    have r10 := r9.go g10 hb10
    -- places
    walk_at "y"
    refine ⟨b, m, rfl, r10.bx, by omega, by omega, fun p0 H11 hp0 g11 hb11 => ?_⟩
    have r11 := r10.go g11 hb11
    walk_at "y"
    refine ⟨b, m, rfl, r11.bx, by omega, by omega, fun p1 H12 hp1 g12 hb12 => ?_⟩
    have r12 := r11.go g12 hb12
    walk_at "y"
    refine x_mkl fun lpl H13 e13 n13 h13 => ?_
    have r13 := r12.ex e13
    have nbl : b ≠ lbe := fun z => box_ne r9.bx (by rw [z]; exact n10)
    have nbp : b ≠ lpl := fun z => box_ne r12.bx (by rw [z]; exact n13)
    have tbef : tupOnlyL (bef.map putD) = true := t10
    have h10 := e13 _ _ (g12.keep _ _ (by simp [Ne.symm nbl]) (g11.keep _ _ (by simp [Ne.symm nbl]) h10))
    have w10 := ((w10.go g11 tbef).go g12 tbef).ex e13
    -- puts
    walk_at "y"
    refine ⟨b, 4, rfl, r13.bx, by decide, by decide, fun t14 H14 ht14 g14 hb14 => ?_⟩
    have r14 := r13.go g14 hb14
    have h10 := g14.keep _ _ (by simp [Ne.symm nbl]) h10
    have w10 := w10.go g14 tbef
    have h13 := g14.keep _ _ (by simp [Ne.symm nbp]) h13
    walk_at "y"
    refine y_lcR (K := K) [b] (fun H' => BoxAt b H') (fun i ds => ∃ pus : List (Nat × PyData), ds = pus.map putD ∧ pus.length = i ∧ ∀ p ∈ pus, Sm 4 p.2 ∧ p.1 < m) t14 (by omega) (by intro z hz; rw [List.mem_singleton.mp hz]; exact box_ne r14.bx) (keeps_box r14.bx) r14.bx ⟨[], rfl, rfl, by simp⟩ (fun i Hd ds hi gd hbd hds ok no hok hno => ?_) (fun lpu xpu ds H15 n15 g15 hb15 h15 w15 t15 hds => ?_)
    · obtain ⟨pus, rfl, hlen, hpus⟩ := hds
      refine turn_name rfl ?_
      have hpl := gd.keep _ _ (by simp [Ne.symm nbp]) h13
      walk_at "y"
      refine ⟨b, lpl, _, rfl, hbd, hpl, nbp, by simp, by simp, fun ix x Hf hx gf hbf => ?_⟩
      obtain ⟨n, rfl, hn⟩ : ∃ n : Nat, x = .int (n : Int) ∧ n < m := by
        match ix with
        | 0 => cases hx; exact ⟨p0, rfl, hp0⟩
        | 1 => cases hx; exact ⟨p1, rfl, hp1⟩
        | _ + 2 => cases hx
      walk_at "y"
      refine x_mkt (K := K) .nil fun u Hg eg wg => ?_
      walk_at "y"
      refine x_mkl fun pa Hh eh nh hh => ?_
      have hbh := hbf.go (eg.trans eh).go (S := []) (by simp)
      have nba : b ≠ pa := fun z => box_ne (hbf.go eg.go (S := []) (by simp)) (by rw [z]; exact nh)
      walk_at "y"
      refine ⟨b, pa, _, rfl, hbh, hh, nba, by simp, by simp, fun iy y Hi hy gi hbi => ?_⟩
      obtain ⟨dy, wy, sy⟩ : ∃ dy, Wt K Hi y dy ∧ Sm 2 dy := by
        match iy with
        | 0 => cases hy; exact ⟨.str "a", .str _, (sm_str _).mono (by decide)⟩
        | 1 => cases hy; exact ⟨.none, .non, rfl, rfl, by decide⟩
        | 2 => cases hy; exact ⟨.tuple [], (wg.ex eh).go gi rfl, rfl, rfl, by show 1 < 2; decide⟩
        | _ + 3 => cases hy
      walk_at "y"
      refine x_mkt (K := K) (.cons (.int _) (.cons wy .nil)) fun u2 Hj ej wj => ?_
      walk_at "y"
      refine x_mkt (K := K) (.cons (.int (n : Int)) (.cons wj .nil)) fun v2 Hk ek wk => ?_
      have sm : Sm 4 (.tuple [.int (i : Int), dy]) := (Sm.tup (n := 2) (by simp) (by decide) fun x hx => by
        simp only [List.mem_cons, List.not_mem_nil, or_false] at hx
        rcases hx with rfl | rfl
        · exact (sm_int _).mono (by decide)
        · exact sy).mono (by decide)
      refine hok v2 (putD (n, .tuple [.int (i : Int), dy])) Hk (gf.trans ((eg.trans eh).go.trans (gi.trans (ej.trans ek).go))) (hbi.go (ej.trans ek).go (S := []) (by simp)) wk (putD_to (p := (n, _)) sm.to) ⟨pus ++ [(n, .tuple [.int (i : Int), dy])], by rw [List.map_append]; rfl, by rw [List.length_append, List.length_singleton, hlen], fun p hp => ?_⟩
      rcases List.mem_append.mp hp with z | z
      · exact hpus p z
      · rw [List.mem_singleton.mp z]; exact ⟨sm, hn⟩
    obtain ⟨pus, rfl, lpus, hpus⟩ := hds
    have r15 := r14.go g15 hb15
    have nbu : b ≠ lpu := fun z => box_ne r14.bx (by rw [z]; exact n15)
    have h10 := g15.keep _ _ (by simp [Ne.symm nbl]) h10
    have w10 := w10.go g15 tbef
    have h13 := g15.keep _ _ (by simp [Ne.symm nbp]) h13
    have lxb : xbe.length = bef.length := by rw [w10.len, List.length_map]
    have lxp : xpu.length = pus.length := by rw [w15.len, List.length_map]
    have tpus : tupOnlyL (pus.map putD) = true := t15
    -- lots
    walk_at "y"
    refine x_lenl h15 ?_
    rw [lxp]
    walk_at "y"
    refine ⟨pus.length, rfl, by omega, fun ll xll Ls H16 e16 n16 h16 w16 asc16 l16 => ?_⟩
    have r16 := r15.ex e16
    have h10 := e16 _ _ h10
    have w10 := w10.ex e16
    have h13 := e16 _ _ h13
    have h15 := e16 _ _ h15
    have w15 := w15.ex e16
    have nbll : b ≠ ll := fun z => box_ne r15.bx (by rw [z]; exact n16)
    have rL : BT TT b H16 H16 := ⟨⟨fun _ _ _ h _ => h, fun _ _ h => h⟩, r16.bx, r16.tb⟩
    walk_at "y"
    refine y_forL (fun i σ H' => BT TT b H16 H' ∧ ∃ o5 o6 o7 o8 o9 o10, σ = [some (.ref b), some (.int (m : Int)), some (.ref lbe), some (.ref lpl), some (.ref lpu), o5, o6, o7, o8, o9, o10]) h16 ⟨rL, _, _, _, _, _, _, rfl⟩ (fun i σ H' p => p.1.g.keep _ _ (by simp [Ne.symm nbll]) h16 (fun _ z => by cases z)) (fun i x σ Hb hx p => ?_) fun σ Hb p => ?_
    · obtain ⟨rb, o5, o6, o7, o8, o9, o10, rfl⟩ := p
      have k10 := rb.g.keep _ _ (by simp [Ne.symm nbl]) h10 (fun _ z => by cases z)
      have k13 := rb.g.keep _ _ (by simp [Ne.symm nbp]) h13 (fun _ z => by cases z)
      have k15 := rb.g.keep _ _ (by simp [Ne.symm nbu]) h15 (fun _ z => by cases z)
      have v10 := wtl_goT rb.g tbef w10
      have v15 := wtl_goT rb.g tpus w15
      obtain ⟨dl, hdl, wdl⟩ := w16.get hx
      obtain ⟨ns, hns, rfl⟩ : ∃ ns, Ls[i]? = some ns ∧ dl = .tuple (numsD ns) := by
        unfold lotsD at hdl
        rw [List.getElem?_map] at hdl
        cases e : Ls[i]? with
        | none => rw [e] at hdl; cases hdl
        | some ns => rw [e] at hdl; cases hdl; exact ⟨ns, rfl, rfl⟩
      have hasc := asc16 ns (List.mem_of_getElem? hns)
      obtain ⟨al, rfl, eal⟩ := nums_wt wdl
      have kal := rb.g.tup _ _ eal
      walk_at "y"
      refine x_mkDisk hm fun d Hc ec nd hdc => ?_
      walk_at "y"
      refine ⟨m, rfl, by omega, fun dd ls lf lp Hd ed n1 n2 n3 n4 hld => ?_⟩
      have bxd := rb.bx.go (ec.trans ed).go (S := []) (by simp)
      have D0 : DS K C Hb b d dd ls lf lp m (List.replicate m (.tuple [])) (List.replicate m (.tuple [])) [] Hd :=
        ⟨(ec.trans ed).go, bxd, hdc.go sd0.ok ed.go (S := []) (by simp), hld, sd0, ⟨nd, ec.free n1, ec.free n2, ec.free n3, ec.free n4⟩, box_ne rb.bx⟩
      walk_at "y"
      refine y_forL (fun i σ H' => ∃ (sl : List PyData) (pu : List (Nat × PyData)) (o8 o9 : Option V), σ = [some (.ref b), some (.int (m : Int)), some (.ref lbe), some (.ref lpl), some (.ref lpu), some (.ref al), some (.ref d), some (.ref dd), o8, o9, o10] ∧ DS K C Hb b d dd ls lf lp m sl (List.replicate m (.tuple [])) pu H' ∧ pu.length = i) (show Hd lbe = some (.lst xbe) from (ec.trans ed) _ _ k10) ⟨_, [], _, _, rfl, D0, rfl⟩ (fun i σ H' p => by obtain ⟨sl, pu, o8, o9, _, r, _⟩ := p; exact r.g.keep _ _ (by simp [Ne.symm nbl]) k10) (fun i x σ He hx p => ?_) fun σ He p => ?_
      · obtain ⟨sl, pu, o8, o9, rfl, r, lpu'⟩ := p
        have hi : i < bef.length := by rw [← lxb]; exact (List.getElem?_eq_some_iff.mp hx).1
        obtain ⟨dp, hdp, wdp⟩ := v10.get hx
        obtain ⟨pp, hpp, rfl⟩ : ∃ pp, bef[i]? = some pp ∧ dp = putD pp := by
          rw [List.getElem?_map] at hdp
          cases e : bef[i]? with
          | none => rw [e] at hdp; cases hdp
          | some pp => rw [e] at hdp; cases hdp; exact ⟨pp, rfl, rfl⟩
        obtain ⟨spp, lpp⟩ := hbef pp (List.mem_of_getElem? hpp)
        obtain ⟨ax, yx, rfl, eax, wyx⟩ := put_wt wdp
        have wyx := wyx.go r.g spp.to
        refine x_gtup (r.g.tup _ _ eax) rfl ?_
        obtain ⟨dxd, va, vb, vc, edd, _⟩ := id r.dk
        walk_at "y"
        refine x_kmeth edd rfl ?_
        walk_at "y"
        refine ⟨d, .int (pp.1 : Int), .int (pp.1 : Int), yx, pp.2, _, _, pu, rfl, r.dk, r.sd.ok, .int _, .inr ⟨pp.1, rfl, by rw [r.sd.l1]; exact lpp, wyx, spp.to, by rw [r.sd.l1]; exact hm2, by omega, fun Hf gf hf => ?_⟩⟩
        have ld1 := ld_d r.ld r.sd.ok r.dk gf
        walk_at "y"
        refine ⟨dd, ls, lf, lp, pp.1, yx, pp.2, sl, _, pu, rfl, ld1, r.sd.ok, by rw [r.sd.l1]; exact lpp, by omega, wyx.go gf spp.to, spp.to, fun Hg gg hg => ?_⟩
        walk_at "y"
        exact ⟨_, _, _, _, rfl, r.put lpp spp (by omega) gf hf gg hg, by rw [List.length_append, List.length_singleton, lpu']⟩
      · obtain ⟨sl, pu, o8, o9, rfl, r, lpu'⟩ := p
        obtain ⟨dxd, va, vb, vc, edd, _⟩ := id r.dk
        walk_at "y"
        refine x_kmeth edd rfl ?_
        walk_at "y"
        refine ⟨d, sl, _, pu, rfl, r.dk, r.sd.ok, fun Hf gf hf => ?_⟩
        have ld1 := ld_d r.ld r.sd.ok r.dk gf
        walk_at "y"
        refine ⟨dd, ls, lf, lp, sl, _, pu, rfl, ld1, r.sd.ok, fun lf2 lp2 Hg gg j1 j2 hg => ?_⟩
        have R0 := r.flush gf hf gg j1 j2 hg
        walk_at "y"
        refine y_forL (fun i σ H' => ∃ (sl2 : List PyData) (o8 o9 : Option V), σ = [some (.ref b), some (.int (m : Int)), some (.ref lbe), some (.ref lpl), some (.ref lpu), some (.ref al), some (.ref d), some (.ref dd), o8, o9, o10] ∧ DS K C Hb b d dd ls lf2 lp2 m sl2 sl (pus.take i) H') (show Hg lpu = some (.lst xpu) from R0.g.keep _ _ (by simp [Ne.symm nbu]) k15) ⟨_, _, _, rfl, R0⟩ (fun i σ H' p => by obtain ⟨sl2, o8, o9, _, r⟩ := p; exact r.g.keep _ _ (by simp [Ne.symm nbu]) k15) (fun i x σ He hx p => ?_) fun σ He p => ?_
        · obtain ⟨sl2, o8, o9, rfl, r⟩ := p
          have hi : i < pus.length := by rw [← lxp]; exact (List.getElem?_eq_some_iff.mp hx).1
          obtain ⟨dp, hdp, wdp⟩ := v15.get hx
          obtain ⟨pp, hpp, rfl⟩ : ∃ pp, pus[i]? = some pp ∧ dp = putD pp := by
            rw [List.getElem?_map] at hdp
            cases e : pus[i]? with
            | none => rw [e] at hdp; cases hdp
            | some pp => rw [e] at hdp; cases hdp; exact ⟨pp, rfl, rfl⟩
          obtain ⟨spp, lpp⟩ := hpus pp (List.mem_of_getElem? hpp)
          obtain ⟨ax, yx, rfl, eax, wyx⟩ := put_wt wdp
          have wyx := wyx.go r.g spp.to
          have lt : (pus.take i).length = i := by rw [List.length_take]; omega
          refine x_gtup (r.g.tup _ _ eax) rfl ?_
          obtain ⟨dxd, va, vb, vc, edd, _⟩ := id r.dk
          walk_at "y"
          refine x_kmeth edd rfl ?_
          walk_at "y"
          refine ⟨d, .int (pp.1 : Int), .int (pp.1 : Int), yx, pp.2, _, _, pus.take i, rfl, r.dk, r.sd.ok, .int _, .inr ⟨pp.1, rfl, by rw [r.sd.l1]; exact lpp, wyx, spp.to, by rw [r.sd.l1]; exact hm2, by omega, fun Hf gf hf => ?_⟩⟩
          have ld1 := ld_d r.ld r.sd.ok r.dk gf
          walk_at "y"
          refine ⟨dd, ls, lf2, lp2, pp.1, yx, pp.2, sl2, _, pus.take i, rfl, ld1, r.sd.ok, by rw [r.sd.l1]; exact lpp, by omega, wyx.go gf spp.to, spp.to, fun Hg gg hg => ?_⟩
          walk_at "y"
          refine ⟨sl2.set pp.1 pp.2, _, _, rfl, ?_⟩
          rw [take_snoc hpp]
          exact r.put lpp spp (by omega) gf hf gg hg
        · obtain ⟨sl2, o8, o9, rfl, r⟩ := p
          rw [lxp, List.take_length] at r
          have hT' : Tabs TT He := by
            obtain ⟨i, j, k, eb⟩ := rb.bx
            exact Tabs.go rb.tb r.g fun s hs => by rw [List.mem_singleton.mp hs]; exact .inl ⟨_, eb⟩
          walk_at "y"
          refine x_lenl (r.g.keep _ _ (by simp [Ne.symm nbu]) k15) ?_
          rw [lxp]
          walk_at "y"
          refine ⟨b, d, m, pus.length, sl2, sl, pus, rfl, r.bx, r.dk, r.sd.ok, r.sd.l1, by rw [r.sd.l2]; exact hm2, hm2, rfl, hT', fun Hf gf tf bf => ?_⟩
          have nb := r.nb
          have dk := r.dk.goT r.sd.ok gf (by simp [Ne.symm nb.1])
          have ld := r.ld.goT r.sd.ok gf ⟨by simp [Ne.symm nb.2.1], by simp [Ne.symm nb.2.2.1], by simp [Ne.symm nb.2.2.2.1], by simp [Ne.symm nb.2.2.2.2]⟩
          have Gf : GoT [b] Hb Hf := r.g.goT.trans gf
          have q15 := Gf.keep _ _ (by simp [Ne.symm nbu]) k15 (fun _ z => by cases z)
          have z15 := wtl_goT Gf tpus v15
          have q13 := Gf.keep _ _ (by simp [Ne.symm nbp]) k13 (fun _ z => by cases z)
          have qal := Gf.tup _ _ kal
          have sd := r.sd
          have frd := r.fr
          clear r
          obtain ⟨dx1, v1', v2', v3', ed1, wa1, _, wc1⟩ := id dk
          obtain ⟨xs1, es1, ws1⟩ := ld.s
          walk_at "y"
          refine x_kfld ed1 D.ins.cl D.a_slots rfl ?_
          walk_at "y"
          refine x_kdgetK ld.d rfl ?_
          walk_at "y"
          refine x_tupl es1 fun p20 H20 e20 n20 h20 => ?_
          walk_at "y"
          refine ⟨v1', .ref p20, .tuple sl2, rfl, wa1.ex e20, .tup h20 (ws1.ex e20), sd.sm, fun H21 e21 => ?_⟩
          have E21 := e20.trans e21
          walk_at "y"
          refine x_kfld (E21 _ _ ed1) D.ins.cl D.a_puts rfl ?_
          walk_at "y"
          refine x_tupl (E21 _ _ q15) fun p22 H22 e22 n22 h22 => ?_
          walk_at "y"
          refine ⟨v3', .ref p22, .tuple (pus.map putD), rfl, wc1.ex (E21.trans e22), .tup h22 (z15.ex (E21.trans e22)), sm_putsD (fun p hp => (hpus p hp).1) (by omega), fun H23 e23 => ?_⟩
          have E23 := (E21.trans e22).trans e23
          walk_at "y"
          refine x_kmeth (E23 _ _ ed1) rfl ?_
          walk_at "y"
          refine x_lstt (E23 _ _ qal) fun p24 H24 e24 n24 h24 => ?_
          walk_at "y"
          refine x_mkl fun p25 H25 e25 n25 h25 => ?_
          have E25 := (E23.trans e24).trans e25
          have bf25 := bf.go E25.go (S := []) (by simp)
          have nb24 : b ≠ p24 := fun z => box_ne (bf.go E23.go (S := []) (by simp)) (by rw [z]; exact n24)
          walk_at "y"
          refine ⟨b, p25, _, rfl, bf25, h25, fun z => box_ne (bf.go (E23.trans e24).go (S := []) (by simp)) (by rw [z]; exact n25), by simp, by simp, fun iz xz H26 hxz g26 hb26 => ?_⟩
          have dk25 := dk.go sd.ok E25.go (S := []) (by simp)
          have ld25 := ld.go sd.ok E25.go (L := []) (by simp)
          have dk26 := dk25.go sd.ok g26 (by simp [Ne.symm nb.1])
          have ld26 := ld25.go sd.ok g26 ⟨by simp [Ne.symm nb.2.1], by simp [Ne.symm nb.2.2.1], by simp [Ne.symm nb.2.2.2.1], by simp [Ne.symm nb.2.2.2.2]⟩
          have qal26 := g26.tup _ _ (E25 _ _ qal)
          have q13' := g26.keep _ _ (by simp [Ne.symm nbp]) (E25 _ _ q13)
          obtain ⟨dz, wz, lz⟩ : ∃ dz, Wt K H26 xz dz ∧ lotD dz pus.length = some ns := by
            match iz with
            | 0 => cases hxz; exact ⟨.tuple (numsD ns), .tup qal26 (wt_nums ns), lot_ok hasc⟩
            | 1 => cases hxz; exact ⟨.list (numsD ns), .lst (g26.keep _ _ (by simp [Ne.symm nb24]) (e25 _ _ h24)) (wt_nums ns), lot_ok hasc⟩
            | _ + 2 => cases hxz
          have T26 : BT TT b Hb H26 := ⟨(Gf.trans E25.go.goT).trans g26.goT, hb26, by
            obtain ⟨i, j, k, eb⟩ := bf25
            exact Tabs.go (tf.ext E25) g26 fun s hs => by rw [List.mem_singleton.mp hs]; exact .inl ⟨_, eb⟩⟩
          walk_at "y"
          refine ⟨d, xz, dz, sl2, sl, pus, rfl, dk26, sd.ok, wz, by rw [sd.l2]; exact hm2, ?_⟩
          rw [lz]
          refine ⟨hasc.2, by have := asc_len' hasc; omega, fun H27 g27 h27 => ?_⟩
          have ld27 := ld_d ld26 sd.ok dk26 g27
          have nal : al ≠ d := fun z => by
            obtain ⟨_, _, _, _, e2, _⟩ := dk26
            rw [← z, qal26] at e2; cases e2
          walk_at "y"
          refine ⟨dd, ls, lf2, lp2, al, ns, sl2, sl, pus, rfl, .inr (g27.tup _ _ qal26), ld27, sd.ok, hasc.2, fun ls8 lf8 lp8 H28 g28 k1 k2 k3 h28 => ?_⟩
          have sdc := sd.cut ns
          have dk28 := h27.go sdc.ok g28 (by simp [Ne.symm (ins_dK h27 ld27.d)])
          have npl : lpl ≠ d := ins_lst dk26 q13'
          have q13'' := g28.keep _ _ (by
            intro z
            have := ld27.d
            rw [← List.mem_singleton.mp z, g27.keep _ _ (by simp [npl]) q13'] at this
            cases this) (g27.keep _ _ (by simp [npl]) q13')
          have T28 : BT TT b Hb H28 := by
            have nbd : b ≠ d := nb.1
            have plain : ∀ s ∈ [d], Plainish H26 s := fun s hs => by
              obtain ⟨_, _, _, _, e2, _⟩ := dk26
              rw [List.mem_singleton.mp hs]; exact .inr (.inl ⟨_, _, _, e2⟩)
            have plain2 : ∀ s ∈ [dd], Plainish H27 s := fun s hs => by
              rw [List.mem_singleton.mp hs]; exact .inr (.inr ⟨_, ld27.d⟩)
            refine ⟨⟨fun a o na h nt => ?_, fun a xs h => g28.tup _ _ (g27.tup _ _ (T26.g.tup _ _ h))⟩, (hb26.go g27 (by simp [nb.1])).go g28 (by simp [nb.2.1]), Tabs.go (Tabs.go T26.tb g27 plain) g28 plain2⟩
            refine g28.keep _ _ (fun z => ?_) (g27.keep _ _ (fun z => ?_) (T26.g.keep _ _ na h nt))
            · rw [List.mem_singleton.mp z, frd.2.1] at h; cases h
            · rw [List.mem_singleton.mp z, frd.1] at h; cases h
          obtain ⟨dx9, y1, y2, y3, ed9, wa9, _, wc9⟩ := id dk28
          obtain ⟨xs9, es9, ws9⟩ := h28.s
          walk_at "y"
          refine x_kfld ed9 D.ins.cl D.a_slots rfl ?_
          walk_at "y"
          refine x_kdgetK h28.d rfl ?_
          walk_at "y"
          refine x_tupl es9 fun p30 H30 e30 n30 h30 => ?_
          walk_at "y"
          refine ⟨y1, .ref p30, .tuple _, rfl, wa9.ex e30, .tup h30 (ws9.ex e30), sdc.sm, fun H31 e31 => ?_⟩
          have E31 := e30.trans e31
          walk_at "y"
          refine x_kfld (E31 _ _ ed9) D.ins.cl D.a_puts rfl ?_
          walk_at "y"
          refine x_mkt (K := K) .nil fun u32 H32 e32 w32 => ?_
          walk_at "y"
          refine ⟨y3, u32, .tuple [], rfl, wc9.ex (E31.trans e32), w32, ⟨rfl, rfl, by show 1 < 10; decide⟩, fun H33 e33 => ?_⟩
          have E33 := (E31.trans e32).trans e33
          have dk33 := dk28.go sdc.ok E33.go (S := []) (by simp)
          have ld33 := h28.go sdc.ok E33.go (L := []) (by simp)
          obtain ⟨dx10, b1, b2, b3, ed10, _⟩ := id dk33
          walk_at "y"
          refine x_kmeth ed10 rfl ?_
          walk_at "y"
          refine x_ixl (E33 _ _ q13'') (n := 0) rfl rfl ?_
          walk_at "y"
          refine x_mkt (K := K) (.cons (.int 9) .nil) fun u34 H34 e34 w34 => ?_
          have dk34 := dk33.go sdc.ok e34.go (S := []) (by simp)
          have ld34 := ld33.go sdc.ok e34.go (L := []) (by simp)
          have sm9 : Sm 4 (.tuple [.int 9]) := (Sm.tup (n := 1) (by simp) (by decide) fun x hx => by rw [List.mem_singleton.mp hx]; exact sm_int _).mono (by decide)
          walk_at "y"
          refine ⟨d, .int (p0 : Int), .int (p0 : Int), u34, .tuple [.int 9], _, _, [], rfl, dk34, sdc.ok, .int _, .inr ⟨p0, rfl, by rw [sdc.l1]; exact hp0, w34, sm9.to, by rw [sdc.l1]; exact hm2, by simp, fun H35 g35 h35 => ?_⟩⟩
          have sd35 := sdc.put hp0 sm9 (by simp)
          have ld35 := ld_d ld34 sdc.ok dk34 g35
          obtain ⟨dx11, c1, c2, c3, ed11, _⟩ := id h35
          walk_at "y"
          refine x_kmeth ed11 rfl ?_
          walk_at "y"
          refine x_mkt (K := K) .nil fun u36 H36 e36 w36 => ?_
          have dk36 := h35.go sd35.ok e36.go (S := []) (by simp)
          have ld36 := ld35.go sdc.ok e36.go (L := []) (by simp)
          walk_at "y"
          refine ⟨d, u36, .tuple [], _, _, _, rfl, dk36, sd35.ok, w36, by rw [sd35.l2]; exact hm2, ?_⟩
          have e0 : ∀ k, lotD (.tuple []) k = some [] := fun _ => rfl
          rw [e0]
          refine ⟨by simp, by simp, fun H37 g37 h37 => ?_⟩
          have h37 : DiskAt K C d (cutP pus sl ns) (cutP pus sl ns) [] H37 := h37
          have ld37 := ld_d ld36 sdc.ok dk36 g37
          obtain ⟨dx12, f1, f2, f3, ed12, wa12, _⟩ := id h37
          obtain ⟨xs12, es12, ws12⟩ := ld37.s
          walk_at "y"
          refine x_kfld ed12 D.ins.cl D.a_slots rfl ?_
          walk_at "y"
          refine x_kdgetK ld37.d rfl ?_
          walk_at "y"
          refine x_tupl es12 fun p40 H40 e40 n40 h40 => ?_
          walk_at "y"
          refine ⟨f1, .ref p40, .tuple _, rfl, wa12.ex e40, .tup h40 (ws12.ex e40), sdc.sm, fun H41 e41 => ?_⟩
          have G35 : Go [d] H28 H41 := ((E33.trans e34).go.trans g35).trans (e36.go.trans (g37.trans (e40.trans e41).go))
          have pl28 : ∀ s ∈ [d], Plainish H28 s := fun s hs => by
            rw [List.mem_singleton.mp hs]; exact .inr (.inl ⟨_, _, _, ed9⟩)
          walk_at "y"
          refine ⟨⟨?_, T28.bx.go G35 (by simp [nb.1]), Tabs.go T28.tb G35 pl28⟩, _, _, _, _, _, _, rfl⟩
          refine rb.g.trans ⟨fun a o na h nt => G35.keep _ _ (fun z => ?_) (T28.g.keep _ _ na h nt), fun a xs h => G35.tup _ _ (T28.g.tup _ _ h)⟩
          rw [List.mem_singleton.mp z, frd.1] at h
          cases h
    · obtain ⟨rb, o5, o6, o7, o8, o9, o10, rfl⟩ := p
      walk_at "y"
      exact q Hb (r16.g.trans rb.g) rb.tb rb.bx
end
end Y
/-! part F7 -/
/-! The law. -/
namespace Y
open PySem LamX L2
local macro_rules | `(tactic| walk_at "y1") => `(tactic| (first
  | (with_reducible refine x_seq ?_) | (with_reducible refine x_asg ?_) | (with_reducible refine x_name ?_) | (with_reducible refine x_drop ?_) | (with_reducible refine x_ret ?_) | (with_reducible refine x_retN ?_)
  | (with_reducible refine x_next ?_) | (with_reducible refine x_brk ?_) | (with_reducible refine x_ifS ?_)
  | (with_reducible refine x_c ?_) | (with_reducible refine x_op ?_) | (with_reducible refine x_un ?_) | (with_reducible refine x_cb ?_) | (with_reducible refine x_cons ?_) | (with_reducible refine x_nil ?_)
  | (with_reducible refine x_call ?_) | (with_reducible refine x_tup ?_) | (with_reducible refine x_lst ?_) | (with_reducible refine x_sl ?_) | (with_reducible refine x_nopart ?_) | (with_reducible refine x_part ?_)
  | (with_reducible refine x_andV ?_) | (with_reducible refine x_orV ?_) | (with_reducible refine x_notV ?_) | (with_reducible refine x_if ?_) | (with_reducible refine x_test ?_) | (with_reducible refine x_tb ?_)
  | (with_reducible refine x_and ?_) | (with_reducible refine x_or ?_) | (with_reducible refine x_not ?_) | (with_reducible refine x_chain ?_) | (with_reducible refine x_exbl ?_) | (with_reducible refine x_exint ?_)
  | (with_reducible refine x_fld ?_) | (with_reducible refine x_sfld ?_) | (with_reducible refine x_par ?_) | (with_reducible refine x_par3 ?_) | (with_reducible refine x_dget ?_) | (with_reducible refine x_dput ?_)
  | (with_reducible refine x_bm ?_) | (with_reducible refine x_bm0 ?_) | (with_reducible refine x_pair ?_) | (with_reducible refine x_tri ?_) | (with_reducible refine x_int ?_) | (with_reducible refine x_intb ?_) | (with_reducible refine x_abs ?_) | (with_reducible refine x_isN ?_) | (with_reducible refine x_notN ?_) | (with_reducible refine x_meth ?_) | (with_reducible refine x_make ?_)
  | (with_reducible refine x_ite1 ?_) | (with_reducible refine x_ite0 ?_)
  | (with_reducible refine x_addi ?_) | (with_reducible refine x_neg ?_) | (with_reducible refine x_i0 ?_) | (with_reducible refine x_eqi ?_) | (with_reducible refine x_eqs ?_) | (with_reducible refine x_eqb ?_) | (with_reducible refine x_nei ?_) | (with_reducible refine x_lti ?_)
  | (with_reducible refine x_forL ?_) | (with_reducible refine x_forT ?_) | (with_reducible refine x_forR ?_) | (with_reducible refine x_forR2 ?_) | (with_reducible refine x_lcL ?_) | (with_reducible refine x_lcT ?_) | (with_reducible refine x_lcR ?_)
  | (with_reducible refine x_yes ?_) | (with_reducible refine x_pcons ?_) | (with_reducible refine x_pnil ?_) | (with_reducible refine x_gcons ?_) | (with_reducible refine x_gnil ?_) | (with_reducible refine x_gattr ?_) | (with_reducible refine x_raise ?_) | (with_reducible refine x_gsub ?_) | (with_reducible refine x_fldaug ?_) | (with_reducible refine x_radd ?_) | (with_reducible refine x_ipi ?_) | ((with_reducible refine x_aug (x := ?vv) ?hh ?qq); (case hh => exact rfl))
  | ((with_reducible refine x_iteA ?hc ?q); (case hc => exact rfl)) | ((with_reducible refine x_iteB ?hc ?q); (case hc => exact rfl))
  | ((with_reducible refine x_var (v := ?vv) ?hh ?qq); (case hh => exact rfl))
  | ((with_reducible refine r_isInt (d := ?dd) ?hh ?qq); (case hh => assumption)) | ((with_reducible refine r_isBool (d := ?dd) ?hh ?qq); (case hh => assumption)) | ((with_reducible refine r_isTup (d := ?dd) ?hh ?qq); (case hh => assumption))
  | ((with_reducible refine r_isStr (d := ?dd) ?hh ?qq); (case hh => assumption)) | ((with_reducible refine r_isLst (d := ?dd) ?hh ?qq); (case hh => assumption))))
local macro_rules | `(tactic| walk_at "y") => `(tactic| (repeat (walk_at "y1")))
section
variable {P : Program} {w : World} {K : PySem.W.Frag} {mg : Str → Option Value} {base : Heap}
theorem sq_goT {S : List Addr} {H H' : Hp} {a : Addr} {xs : List V} (h : SqL K H a xs) (g : GoT S H H') (n : ∀ o, H a = some o → a ∉ S) : SqL K H' a xs := by
  rcases h with (e | ⟨o, e⟩) | k
  · exact .inl (.inl (g.keep a _ (n _ e) e (fun _ z => by cases z)))
  · exact .inl (.inr ⟨o, g.keep a _ (n _ e) e (fun _ z => by cases z)⟩)
  · exact .inr k
/-- slots in a list -/
def SL (K : PySem.W.Frag) (b l : Addr) (H : Hp) : Prop := ∃ (xs : List V) (S : List Slot) (M : Nat), H l = some (.lst xs) ∧ WtL K H xs (S.map slD) ∧ S.length = 2 * M ∧ 2 ≤ M ∧ M ≤ 32 ∧ (∀ s ∈ S, SlotOk s) ∧ b ≠ l
theorem SL.go {b l : Addr} {H H' : Hp} (h : SL K b l H) (g : Go [b] H H') : SL K b l H' := by
  obtain ⟨xs, S, M, e, wl, len, m1, m2, so, n⟩ := h
  exact ⟨xs, S, M, g.keep _ _ (by simp [Ne.symm n]) e, wl.go g (sl_to so), len, m1, m2, so, n⟩
theorem SL.ex {b l : Addr} {H H' : Hp} (h : SL K b l H) (e : Ex H H') : SL K b l H' := h.go e.go
theorem slots_shaped {S : List Slot} (h : ∀ s ∈ S, SlotOk s) : SeqAt.shaped (.list (S.map slD)) = true := by
  have l : ∀ d ∈ S.map slD, Lay 6 d := fun d hd => by
    obtain ⟨s, hs, rfl⟩ := List.mem_map.mp hd
    exact lay_slot (h s hs)
  unfold SeqAt.shaped
  have h1 : (PyData.list (S.map slD)).canLay0 = true := layAll fun d hd => (l d hd).ly
  have h2 : (PyData.list (S.map slD)).depth ≤ 64 := by
    show PyData.depthAll (S.map slD) + 1 ≤ 64
    have := depthAll_le (n := 6) fun d hd => (l d hd).dp
    omega
  rw [h1, decide_eq_true h2]
  rfl
theorem sm_found {S : List Slot} {M : Nat} {r0 r1 : Option (Nat × Nat × Page)} (h0 : RH S M 0 r0) (h1 : RH S M M r1) (so : ∀ s ∈ S, SlotOk s) : Sm 10 (foundD (pickH r0 r1)) := by
  cases e : pickH r0 r1 with
  | none => exact ⟨rfl, rfl, by decide⟩
  | some x =>
    obtain ⟨g, h, l, p⟩ := x
    have hp := (pick_ok h0 h1 so e).2.2
    refine (Sm.tup (n := 6) (by simp) (by decide) fun y hy => ?_).mono (by decide)
    simp only [List.mem_cons, List.not_mem_nil, or_false] at hy
    rcases hy with rfl | rfl | rfl | rfl
    · exact (sm_int _).mono (by decide)
    · exact (sm_int _).mono (by decide)
    · exact (sm_int _).mono (by decide)
    · exact sm_page hp
def spLaw (K : PySem.W.Frag) (TT : List (Addr × Str)) : Sp := fun vs H Q _ => ∃ (s0 : Addr) (ns : List Int), vs = [.ref s0] ∧ SqL K H s0 (ns.map V.int) ∧ Tabs TT H ∧ ∀ H', Q (.bl true) H'
abbrev s_law : Stmt := top 53
abbrev nms_law : List Str := ["script", "k", "box", "many", "thing", "turn", "slots", "given", "told", "due", "bad"]
theorem sc_law : FnScope nms_law ["script"] (defScope s_law) := ⟨rfl, rfl, rfl, by decide +kernel, rfl, by decide +kernel, by decide +kernel⟩
theorem ok_law {f c Pt C : Addr} {fd : FuncData} {TT : List (Addr × Str)} (ER : Ers P K mg) (EK : ExK P K mg ER) (D : DiskC K C) (F : Fun K "law" "law" s_law f fd) (hcd : fd.code = .ref c) (TB : TabB base mg c Pt) (hmT : (Pt, qLam "law" (defScope s_law)) ∈ TT) (huT : ∀ p ∈ TT, p.1 = Pt → p.2 = qLam "law" (defScope s_law)) (hm : mg "law" = some (.ref f)) (b : Binds K fd ["script"] []) (T : Bt mg)
    {gH : Addr} {fdH : FuncData} (FH : Fun K "_law_heard" "_law_heard" s_heard gH fdH) (hmH : mg "_law_heard" = some (.ref gH)) (bH : Binds K fdH ["work"] [])
    (c_box : Cal P w K mg base 1 "_law_box" (spBox K)) (c_take : Cal P w K mg base 1 "_law_take" spTake) (c_pick : Cal P w K mg base 2 "_law_pick" spPick) (c_filled : Cal P w K mg base 5 "_law_filled" (spFilled K)) (c_spoilt : Cal P w K mg base 5 "_law_spoilt" (spSpoilt K)) (c_halves : Cal P w K mg base 5 "_law_halves" (spHalves K))
    (c_read_back : Cal P w K mg base 6 "read_back" (spRead P K mg ER)) (c_read : Cal P w K mg base 3 "_law_read" (spReadL K)) (c_same : Cal P w K mg base 10 "_law_same" (spSame K 10)) (c_none : Cal P w K mg base 4 "_law_none" (spNone K)) (c_pages : Cal P w K mg base 12 "_law_pages" (spPages K TT)) (c_disks : Cal P w K mg base 13 "_law_disks" (spDisks K TT))
    (cDisk : Mak P w K mg base 3 "Disk" C (spDiskInit P K mg ER C)) :
    FnOk P w K mg base (L2.CX P w) 14 f fd ["script"] (spLaw K TT) := by
  have FHk := FH.kp
  obtain ⟨ocH, odH, kVH, docH, pmH, anH, cdvH, ctH, oslH, rfl, lkH, hcdH⟩ := FH.ex
  obtain ⟨oc, od, kV, doc, pm, an, cdv, ct, osl, rfl, lk, hcdl⟩ := F.ex
  refine fn_of lk hcdl sc_law (fun vs H Q E h => ?_) (fun A outer s H vs Q E hr h => ?_)
  · obtain ⟨s0, ns, rfl, _⟩ := h
    rfl
  · obtain ⟨s0, ns, rfl, hS, hT, q⟩ := h
    have hu64 := pass_hu64 hr
    have hcode : cdv = .ref c := hcd
    refine ⟨_, (pss_cons (ps_for (passes_of rfl) rfl (pi_range1 (by rfl) T.range (pa_cons pe_int pa_nil)) (pg_name (i := 1) sc_law.nd rfl (by first | exact Or.inl rfl | exact Or.inr rfl))
    (pss_cons (ps_set (i := 2) sc_law.nd rfl (by first | exact Or.inl rfl | exact Or.inr rfl) (pe_c c_box hr (by decide) (by rfl) (pa_cons (pv 0) (pa_cons (pv 1) pa_nil))))
    (pss_cons (ps_set (i := 3) sc_law.nd rfl (by first | exact Or.inl rfl | exact Or.inr rfl) (pe_c c_pick hr (by decide) (by rfl) (pa_cons (pv 2) (pa_cons (pe_lst (pa_cons pe_int (pa_cons pe_int (pa_cons pe_int (pa_cons pe_int (pa_cons (pe_op (oAddK K) pe_int (pe_op oMul pe_int (pe_c c_take hr (by decide) (by rfl) (pa_cons (pv 2) (pa_cons pe_int pa_nil))))) (pa_cons pe_int pa_nil))))))) pa_nil))))
    (pss_cons (ps_set (i := 4) sc_law.nd rfl (by first | exact Or.inl rfl | exact Or.inr rfl) (pe_mk cDisk hr (by decide) (by rfl) (pa_cons pe_int pa_nil)))
    (pss_cons (ps_for (passes_of rfl) rfl (pi_range1 (by rfl) T.range (pa_cons pe_int pa_nil)) (pg_name (i := 5) sc_law.nd rfl (by first | exact Or.inl rfl | exact Or.inr rfl))
    (pss_cons (ps_set (i := 6) sc_law.nd rfl (by first | exact Or.inl rfl | exact Or.inr rfl) (pe_c c_spoilt hr (by decide) (by rfl) (pa_cons (pv 2) (pa_cons (pe_c c_filled hr (by decide) (by rfl) (pa_cons (pv 2) (pa_cons (pe_callB (call_min2 rfl) (by rfl) T.min (by decide +kernel) (pa_cons (pv 3) (pa_cons pe_int pa_nil))) pa_nil))) pa_nil))))
    (pss_cons (ps_if (pt_cmpR (oEqK K hu64) (pv 5) pe_int (nomark _))
    (pss_one (ps_set (i := 6) sc_law.nd rfl (by first | exact Or.inl rfl | exact Or.inr rfl) (pe_c c_spoilt hr (by decide) (by rfl) (pa_cons (pv 2) (pa_cons (pe_c c_halves hr (by decide) (by rfl) (pa_cons (pv 2) (pa_cons (pv 3) pa_nil))) pa_nil)))))
    pss_nil)
    (pss_cons (ps_if (pt_cmpR (oEqK K hu64) (pv 5) pe_int (nomark _))
    (pss_one (ps_set (i := 6) sc_law.nd rfl (by first | exact Or.inl rfl | exact Or.inr rfl) (pe_c c_pick hr (by decide) (by rfl) (pa_cons (pv 2) (pa_cons (pe_lst (pa_cons (pe_op oMul (pe_lst (pa_cons (pe_tup pa_nil) pa_nil)) (pv 3)) (pa_cons (pe_c c_halves hr (by decide) (by rfl) (pa_cons (pv 2) (pa_cons (pv 3) pa_nil))) (pa_cons (pv 6) pa_nil)))) pa_nil)))))
    pss_nil)
    (pss_cons (ps_set (i := 7) sc_law.nd rfl (by first | exact Or.inl rfl | exact Or.inr rfl) (pe_c c_pick hr (by decide) (by rfl) (pa_cons (pv 2) (pa_cons (pe_lst (pa_cons (pe_callTy cList (by rfl) T.list (by decide +kernel) (pa_cons (pv 6) pa_nil)) (pa_cons (pe_callTy cTuple (by rfl) T.tuple (by decide +kernel) (pa_cons (pv 6) pa_nil)) pa_nil))) pa_nil))))
    (pss_cons (ps_par rfl sc_law.nd (i := 8) (j := 9) rfl rfl (by decide) rfl rfl (pa_cons (pe_c c_read_back hr (by decide) (by rfl) (pa_cons (pv 7) pa_nil)) (pa_cons (pe_c c_read hr (by decide) (by rfl) (pa_cons (pv 6) pa_nil)) pa_nil)) (by rfl))
    (pss_cons (ps_if (PW.pt (pw_or (pt_not (pt_val (pe_c c_same hr (by decide) (by rfl) (pa_cons (pv 8) (pa_cons (pv 9) pa_nil))))) (pw_or1 (pt_cmpR (oNeK K hu64) (pe_callTy cList (by rfl) T.list (by decide +kernel) (pa_cons (pv 7) pa_nil)) (pv 6) (nomark _)))))
    (pss_one (ps_ret pe_bl))
    pss_nil)
    (pss_cons (ps_set (i := 10) sc_law.nd rfl (by first | exact Or.inl rfl | exact Or.inr rfl) (pe_c c_none hr (by decide) (by rfl) (pa_cons (pv 2) (pa_cons (pv 6) (pa_cons (pv 4) pa_nil)))))
    (pss_one (ps_if (pt_not (pt_val (pe_c c_same hr (by decide) (by rfl) (pa_cons (lamT (k := 8) (T := TT) (by rfl) hmH FHk lkH hcdH bH sc_heard rfl (Or.inl rfl) (heard_gives ER EK ER.cD "disk" (-1) HeardOk.disk) TB hcode hmT huT (hr.mono (by decide)) (lamS_by (sc := defScope s_law) (by decide +kernel)) rfl (fun _ _ _ _ _ => rfl) (fun A2 outer2 s2 H2 E2 f2 c2 hr2 => (pe_cX c_read_back hr2 (by decide) (passes_call (takes_of rfl rfl rfl rfl) (fun _ _ _ _ h => h)) (by rfl) (pa_cons (pv 10) pa_nil)))) (pa_cons (pe_tup (pa_cons pe_str (pa_cons (pe_un un_neg pe_int) pa_nil))) pa_nil)))))
    (pss_one (ps_ret pe_bl))
    pss_nil))))))))))
    (pss_one (ps_if (PW.pt (pw_or (pt_not (pt_val (pe_c c_pages hr (by decide) (by rfl) (pa_cons (pv 2) (pa_cons (pv 4) pa_nil))))) (pw_or1 (pt_not (pt_val (pe_c c_disks hr (by decide) (by rfl) (pa_cons (pv 2) (pa_cons (pe_c c_pick hr (by decide) (by rfl) (pa_cons (pv 2) (pa_cons (pe_lst (pa_cons pe_int (pa_cons pe_int (pa_cons (pv 3) pa_nil)))) pa_nil))) pa_nil))))))))
    (pss_one (ps_ret pe_bl))
    pss_nil)))))))
    (pss_one (ps_ret pe_bl))), ?_⟩
    try dsimp only [cxOf]
    refine x_seq (x_forR ?_)
    walk_at "y"
    rw [show (2 : Int) = ((2 : Nat) : Int) from rfl]
    refine y_forR 2 (fun i σ H' => SqL K H' s0 (ns.map V.int) ∧ Tabs TT H' ∧ ∃ o1 o2 o3 o4 o5 o6 o7 o8 o9 o10, σ = [some (.ref s0), o1, o2, o3, o4, o5, o6, o7, o8, o9, o10]) (by decide) ⟨hS, hT, _, _, _, _, _, _, _, _, _, _, rfl⟩ (fun k σ H1 hk p => ?_) fun σ H1 p => ?_
    · obtain ⟨h1, t1, o1, o2, o3, o4, o5, o6, o7, o8, o9, o10, rfl⟩ := p
      walk_at "y"
      refine ⟨s0, ns, k, rfl, h1, by omega, fun b H2 e2 n2 hb2 => ?_⟩
      have r2 : BT TT b H2 H2 := ⟨⟨fun _ _ _ h _ => h, fun _ _ h => h⟩, hb2, t1.ext e2⟩
      walk_at "y"
      refine ⟨b, 31, rfl, hb2, by decide, by decide, fun r H3 hr3 g3 hb3 => ?_⟩
      have r3 := r2.go g3 hb3
      walk_at "y"
      refine x_muli (.inl (by decide)) ?_
      walk_at "y"
      refine x_mkl fun p4 H4 e4 n4 h4 => ?_
      have r4 := r3.ex e4
      have nb4 : b ≠ p4 := fun z => box_ne hb3 (by rw [z]; exact n4)
      walk_at "y"
      refine ⟨b, p4, _, rfl, r4.bx, h4, nb4, by simp, by simp, fun i x5 H5 hx5 g5 hb5 => ?_⟩
      have r5 := r4.go g5 hb5
      obtain ⟨M, rfl, m1, m2⟩ : ∃ M : Nat, x5 = .int ((2 * M : Nat) : Int) ∧ 2 ≤ M ∧ M ≤ 32 := by
        match i with
        | 0 => cases hx5; exact ⟨2, rfl, by decide, by decide⟩
        | 1 => cases hx5; exact ⟨3, rfl, by decide, by decide⟩
        | 2 => cases hx5; exact ⟨4, rfl, by decide, by decide⟩
        | 3 => cases hx5; exact ⟨5, rfl, by decide, by decide⟩
        | 4 =>
          cases hx5
          refine ⟨2 + r, ?_, by omega, by omega⟩
          congr 1
          omega
        | 5 => cases hx5; exact ⟨32, rfl, by decide, by decide⟩
        | _ + 6 => cases hx5
      walk_at "y"
      refine x_mkDisk (m := 4) ⟨by decide, by decide, by decide⟩ fun d H6 e6 nd hd6 => ?_
      have r6 := r5.ex e6
      have wth : Wt K H6 (.ref d) (.dict []) := by
        obtain ⟨_, _, _, _, e, _⟩ := hd6
        exact .obj e D.ins
      walk_at "y"
      rw [show (3 : Int) = ((3 : Nat) : Int) from rfl]
      refine y_forR 3 (fun i σ H' => BT TT b H2 H' ∧ Wt K H' (.ref d) (.dict []) ∧ ∃ o5 o6 o7 o8 o9 o10, σ = [some (.ref s0), some (.int (k : Int)), some (.ref b), some (.int ((2 * M : Nat) : Int)), some (.ref d), o5, o6, o7, o8, o9, o10]) (by decide) ⟨r6, wth, _, _, _, _, _, _, rfl⟩ (fun t σ H7 ht p => ?_) fun σ H7 p => ?_
      · obtain ⟨r7, w7, o5, o6, o7, o8, o9, o10, rfl⟩ := p
        walk_at "y"
        refine ⟨_, _, rfl, ?_⟩
        obtain ⟨M', hM', a1, a2⟩ : ∃ M' : Nat, (if (20 : Int) < ((2 * M : Nat) : Int) then (20 : Int) else ((2 * M : Nat) : Int)) = ((2 * M' : Nat) : Int) ∧ 2 ≤ M' ∧ M' ≤ 10 := by
          by_cases z : (20 : Int) < ((2 * M : Nat) : Int)
          · exact ⟨10, by rw [if_pos z]; rfl, by decide, by decide⟩
          · exact ⟨M, by rw [if_neg z], m1, by omega⟩
        rw [hM']
        walk_at "y"
        refine ⟨b, M', rfl, r7.bx, a1, a2, fun l8 xs8 S8 H8 g8 hb8 n8 e8 w8 len8 so8 => ?_⟩
        have r8 := r7.go g8 hb8
        have nb8 : b ≠ l8 := fun z => box_ne r7.bx (by rw [z]; exact n8)
        walk_at "y"
        refine ⟨b, l8, xs8, S8, M', rfl, r8.bx, nb8, e8, w8, len8, a1, by omega, so8, fun l9 xs9 S9 H9 g9 hb9 n9 e9 w9 len9 so9 => ?_⟩
        have r9 := r8.go g9 hb9
        have nb9 : b ≠ l9 := fun z => box_ne r8.bx (by rw [z]; exact n9)
        have wt9 := r8.asd g9 rfl (r7.asd g8 rfl w7)
        have sl9 : SL K b l9 H9 := ⟨xs9, S9, M', e9, w9, len9, a1, by omega, so9, nb9⟩
        walk_at "y1"
        walk_at "y1"
        dsimp only
        refine x_ifJ (fun σ' H' => ∃ (l : Addr) (o7 o8 o9 o10 : Option V), σ' = [some (.ref s0), some (.int (k : Int)), some (.ref b), some (.int ((2 * M : Nat) : Int)), some (.ref d), some (.int (t : Int)), some (.ref l), o7, o8, o9, o10] ∧ BT TT b H2 H' ∧ Wt K H' (.ref d) (.dict []) ∧ SL K b l H') (fun σ' H10 p => ?_) (fun nx' tail => ?_)
        · obtain ⟨l, o7, o8, o9, o10, rfl, r10, wt10, sl10⟩ := p
          dsimp only
          refine x_seq ?_
          refine x_ifJ (fun σ' H' => ∃ (l : Addr) (o7 o8 o9 o10 : Option V), σ' = [some (.ref s0), some (.int (k : Int)), some (.ref b), some (.int ((2 * M : Nat) : Int)), some (.ref d), some (.int (t : Int)), some (.ref l), o7, o8, o9, o10] ∧ BT TT b H2 H' ∧ Wt K H' (.ref d) (.dict []) ∧ SL K b l H') (fun σ' H11 p => ?_) (fun nx' tail => ?_)
          · obtain ⟨l, o7, o8, o9, o10, rfl, r11, wt11, xs, S, M1, el, wl, len, c1, c2, so, nbl⟩ := p
            obtain ⟨rh0, h0⟩ := rh_exists S M1 0 (by omega) (by omega)
            obtain ⟨rh1, h1'⟩ := rh_exists S M1 M1 (by omega) (by omega)
            walk_at "y"
            refine x_lstl el fun p12 H12 e12 n12 h12 => ?_
            walk_at "y"
            refine x_tupl (e12 _ _ el) fun p13 H13 e13 n13 h13 => ?_
            walk_at "y"
            refine x_mkl fun p14 H14 e14 n14 h14 => ?_
            have E14 := (e12.trans e13).trans e14
            have r14 := r11.ex E14
            have nb12 : b ≠ p12 := fun z => box_ne r11.bx (by rw [z]; exact n12)
            have nb14 : b ≠ p14 := fun z => box_ne (r11.bx.go (e12.trans e13).go (S := []) (by simp)) (by rw [z]; exact n14)
            walk_at "y"
            refine ⟨b, p14, _, rfl, r14.bx, h14, nb14, by simp, by simp, fun i x15 H15 hx15 g15 hb15 => ?_⟩
            have r15 := r14.go g15 hb15
            have wt15 := r14.asd g15 rfl (wt11.ex E14)
            have el15 := g15.keep _ _ (by simp [Ne.symm nbl]) (E14 _ _ el)
            have wl15 := (wl.ex E14).go g15 (sl_to so)
            have sq15 : SeqD K H15 x15 (S.map slD) := by
              match i with
              | 0 => cases hx15; exact .inl (.lst (g15.keep _ _ (by simp [Ne.symm nb12]) (e14 _ _ (e13 _ _ h12))) wl15)
              | 1 => cases hx15; exact .inr (.tup (g15.tup _ _ (e14 _ _ h13)) wl15)
              | _ + 2 => cases hx15
            walk_at "y"
            refine .inr ⟨x15, S, M1, rh0, rh1, rfl, sq15, len, c1, c2, so, h0, h1', fun u16 H16 e16 w16 => ?_⟩
            walk_at "y"
            refine ⟨l, xs, S, M1, rh0, rh1, rfl, e16 _ _ el15, wl15.ex e16, len, c1, c2, so, h0, h1', fun u17 H17 e17 w17 => ?_⟩
            walk_at "y"
            refine ⟨u16, u17, _, rfl, w16.ex e17, w17, sm_found h0 h1' so, fun H18 e18 => ?_⟩
            have E18 := (e16.trans e17).trans e18
            have r18 := r15.ex E18
            have wt18 := wt15.ex E18
            have el18 := E18 _ _ el15
            have wl18 := wl15.ex E18
            have sq18 := sq15.ex E18
            have sh := slots_shaped so
            have cmp : ∀ (y : V) (H' : Hp) (Q' : VK), Wt K H' y (.list (S.map slD)) → Ex H18 H' → Q' (.bl false) H' → rNeU K y (.ref l) H' Q' := fun y H' Q' wy ex q' => by
              refine x_ned wy (.lst (ex _ _ el18) (wl18.ex ex)) sh sh ?_
              rw [SeqAt.eqv_refl _ (SeqAt.canLay_of_shaped sh)]
              exact q'
            walk_at "y"
            rcases sq18 with sq | sq
            · cases sq with
              | @lst ga gx _ ge gw =>
              refine x_lstl ge fun p19 H19 e19 n19 h19 => ?_
              walk_at "y"
              refine cmp _ _ _ (.lst h19 (gw.ex e19)) e19 ?_
              have r19 := r18.ex e19
              have wt19 := wt18.ex e19
              walk_at "y"
              refine ⟨b, l, .ref d, xs, S, M1, rfl, r19.bx, nbl, e19 _ _ el18, wl18.ex e19, len, c1, c2, so, wt19, fun x20 d20 H20 g20 hb20 wx20 no20 => ?_⟩
              have r20 := r19.go g20 hb20
              have wt20 := r19.asd g20 rfl wt19
              walk_at "y"
              refine x_lam r20.tb fun H21 e21 tb21 => ?_
              have r21 := r20.exN e21 tb21
              have wt21 := wt20.exN e21
              have wx21 := wx20.exN e21
              try unfold THeard
              try dsimp only
              walk_at "y"
              refine .inl ⟨x20, d20, rfl, wx21, no20.sd, no20.no, errs_heard fun u22 H22 e22 w22 => ?_⟩
              walk_at "y"
              refine x_mkt (K := K) (.cons (.str _) (.cons (.int _) .nil)) fun u23 H23 e23 w23 => ?_
              walk_at "y"
              refine ⟨u22, u23, _, rfl, w22.ex e23, w23, sm_word _ _, fun H24 e24 => ?_⟩
              have E24 := (e22.trans e23).trans e24
              walk_at "y"
              exact ⟨r21.ex E24, wt21.ex E24, _, _, _, _, _, _, rfl⟩
            · cases sq with
              | @tup ga gx _ ge gw =>
              refine x_lstt ge fun p19 H19 e19 n19 h19 => ?_
              walk_at "y"
              refine cmp _ _ _ (.lst h19 (gw.ex e19)) e19 ?_
              have r19 := r18.ex e19
              have wt19 := wt18.ex e19
              walk_at "y"
              refine ⟨b, l, .ref d, xs, S, M1, rfl, r19.bx, nbl, e19 _ _ el18, wl18.ex e19, len, c1, c2, so, wt19, fun x20 d20 H20 g20 hb20 wx20 no20 => ?_⟩
              have r20 := r19.go g20 hb20
              have wt20 := r19.asd g20 rfl wt19
              walk_at "y"
              refine x_lam r20.tb fun H21 e21 tb21 => ?_
              have r21 := r20.exN e21 tb21
              have wt21 := wt20.exN e21
              have wx21 := wx20.exN e21
              try unfold THeard
              try dsimp only
              walk_at "y"
              refine .inl ⟨x20, d20, rfl, wx21, no20.sd, no20.no, errs_heard fun u22 H22 e22 w22 => ?_⟩
              walk_at "y"
              refine x_mkt (K := K) (.cons (.str _) (.cons (.int _) .nil)) fun u23 H23 e23 w23 => ?_
              walk_at "y"
              refine ⟨u22, u23, _, rfl, w22.ex e23, w23, sm_word _ _, fun H24 e24 => ?_⟩
              have E24 := (e22.trans e23).trans e24
              walk_at "y"
              exact ⟨r21.ex E24, wt21.ex E24, _, _, _, _, _, _, rfl⟩
          · obtain ⟨xs, S, M1, el, wl, len, c1, c2, so, nbl⟩ := id sl10
            walk_at "y"
            split
            · walk_at "y"
              refine x_mkt (K := K) .nil fun u11 H11 e11 w11 => ?_
              walk_at "y"
              refine x_mkl fun p12 H12 e12 n12 h12 => ?_
              walk_at "y"
              refine x_mull h12 (by omega) (by simp; omega) (by omega) fun p13 H13 e13 n13 h13 => ?_
              rw [Int.toNat_natCast, flat_rep] at h13
              have E13 := (e11.trans e12).trans e13
              have r13 := r10.ex E13
              have nb13 : b ≠ p13 := fun z => box_ne (r10.bx.go (e11.trans e12).go (S := []) (by simp)) (by rw [z]; exact n13)
              have sl13 : SL K b p13 H13 := ⟨_, List.replicate (2 * M) none, M, h13, by rw [List.map_replicate]; exact WtL.replicate (w11.ex (e12.trans e13)) _, by simp, m1, m2, (fun s hs => by rw [(List.mem_replicate.mp hs).2]; intro e he; cases he), nb13⟩
              walk_at "y"
              refine ⟨b, M, rfl, r13.bx, m1, m2, fun l14 xs14 S14 H14 g14 hb14 n14 e14 w14 len14 so14 => ?_⟩
              have r14 := r13.go g14 hb14
              have nb14 : b ≠ l14 := fun z => box_ne r13.bx (by rw [z]; exact n14)
              have sl14 : SL K b l14 H14 := ⟨xs14, S14, M, e14, w14, len14, m1, m2, so14, nb14⟩
              walk_at "y"
              refine x_mkl fun p15 H15 e15 n15 h15 => ?_
              have r15 := r14.ex e15
              have nb15 : b ≠ p15 := fun z => box_ne r14.bx (by rw [z]; exact n15)
              walk_at "y"
              refine ⟨b, p15, _, rfl, r15.bx, h15, nb15, by simp, by simp, fun i x16 H16 hx16 g16 hb16 => ?_⟩
              have r16 := r15.go g16 hb16
              have wt16 := r15.asd g16 rfl ((r13.asd g14 rfl (wt10.ex E13)).ex e15)
              obtain ⟨l16, rfl, sl16⟩ : ∃ l16, x16 = .ref l16 ∧ SL K b l16 H16 := by
                match i with
                | 0 => cases hx16; exact ⟨_, rfl, ((sl13.go g14).ex e15).go g16⟩
                | 1 => cases hx16; exact ⟨_, rfl, (sl14.ex e15).go g16⟩
                | 2 => cases hx16; exact ⟨_, rfl, (((sl10.ex E13).go g14).ex e15).go g16⟩
                | _ + 3 => cases hx16
              walk_at "y"
              exact tail _ _ ⟨l16, o7, o8, o9, o10, rfl, r16, wt16, sl16⟩
            · walk_at "y"
              exact tail _ _ ⟨l, o7, o8, o9, o10, rfl, r10, wt10, sl10⟩
        · walk_at "y"
          split
          · walk_at "y"
            refine ⟨b, M, rfl, r9.bx, m1, m2, fun l14 xs14 S14 H14 g14 hb14 n14 e14 w14 len14 so14 => ?_⟩
            have r14 := r9.go g14 hb14
            have nb14 : b ≠ l14 := fun z => box_ne r9.bx (by rw [z]; exact n14)
            walk_at "y"
            refine ⟨b, l14, xs14, S14, M, rfl, r14.bx, nb14, e14, w14, len14, m1, m2, so14, fun l15 xs15 S15 H15 g15 hb15 n15 e15 w15 len15 so15 => ?_⟩
            have r15 := r14.go g15 hb15
            have nb15 : b ≠ l15 := fun z => box_ne r14.bx (by rw [z]; exact n15)
            walk_at "y"
            exact tail _ _ ⟨l15, o7, o8, o9, o10, rfl, r15, r14.asd g15 rfl (r9.asd g14 rfl wt9), xs15, S15, M, e15, w15, len15, m1, m2, so15, nb15⟩
          · walk_at "y"
            exact tail _ _ ⟨l9, o7, o8, o9, o10, rfl, r9, wt9, sl9⟩
      · obtain ⟨r7, w7, o5, o6, o7, o8, o9, o10, rfl⟩ := p
        walk_at "y"
        refine ⟨b, .ref d, rfl, r7.bx, w7, r7.tb, fun H8 g8 t8 hb8 => ?_⟩
        have r8 : BT TT b H2 H8 := ⟨r7.g.trans g8, hb8, t8⟩
        walk_at "y"
        refine x_mkl fun p9 H9 e9 n9 h9 => ?_
        have r9 := r8.ex e9
        have nb9 : b ≠ p9 := fun z => box_ne hb8 (by rw [z]; exact n9)
        walk_at "y"
        refine ⟨b, p9, _, rfl, r9.bx, h9, nb9, by simp, by simp, fun i x10 H10 hx10 g10 hb10 => ?_⟩
        have r10 := r9.go g10 hb10
        obtain ⟨m, rfl, hm⟩ : ∃ m : Nat, x10 = .int (m : Int) ∧ SizeOk m := by
          match i with
          | 0 => cases hx10; exact ⟨4, rfl, by decide, by decide, by decide⟩
          | 1 => cases hx10; exact ⟨6, rfl, by decide, by decide, by decide⟩
          | 2 => cases hx10; exact ⟨2 * M, rfl, by omega, by omega, by omega⟩
          | _ + 3 => cases hx10
        walk_at "y"
        refine ⟨b, m, rfl, r10.bx, hm, r10.tb, fun H11 g11 t11 hb11 => ?_⟩
        walk_at "y"
        refine ⟨sq_goT h1 (e2.go.goT.trans (r10.g.trans g11)) fun o e z => ?_, t11, _, _, _, _, _, _, _, _, _, _, rfl⟩
        rw [List.mem_singleton.mp z, n2] at e
        cases e
    · obtain ⟨h1, t1, o1, o2, o3, o4, o5, o6, o7, o8, o9, o10, rfl⟩ := p
      walk_at "y"
      exact q H1
end
end Y
/-! part D0 -/
/-! What the written part says of defs, classes, errors. -/
namespace Y
open PySem LamX L2
section
variable {K : PySem.W.Frag} {x m qual : Str} {st : Stmt} {f C c Pt : Addr} {oc : Value} {od an : Option Addr} {osl : Array (Option Value)} {kV doc pm cdv ct : Value}
structure DefIn (K : PySem.W.Frag) (x : Str) (st : Stmt) : Prop where
  ex : ∃ f fd, PySem.W.nsIn K mainGlobals x = some (some (.ref f)) ∧ Fun K x x st f fd
structure DefT (K : PySem.W.Frag) (h : Heap) (x : Str) (st : Stmt) (c Pt : Addr) : Prop where
  ex : ∃ f fd, PySem.W.nsIn K mainGlobals x = some (some (.ref f)) ∧ Fun K x x st f fd ∧ fd.code = .ref c ∧ PySem.W.codeHdIn K c Pt = true ∧ K.lookup Pt = none
  tb : h.get? Pt = some { cls := .none, data := .fields #[] }
structure MethIn (K : PySem.W.Frag) (C : Addr) (m qual : Str) (st : Stmt) : Prop where
  ex : ∃ f fd, Meth K C m f ∧ Fun K m qual st f fd
structure InitIn (K : PySem.W.Frag) (C : Addr) (qual : Str) (st : Stmt) : Prop where
  ex : ∃ f fd, Mk K C f ∧ Fun K "__init__" qual st f fd
theorem def_in (a : PySem.W.nsIn K mainGlobals x = some (some (.ref f))) (l : K.lookup f = some ⟨oc, od, .func (PySem.W.fnOf x x (defArgs st) (defBody st) (defScope st) .none kV doc pm an cdv ct), osl⟩) (c : PySem.W.codeIn K cdv x = true) (k : PySem.W.keepIn K (.ref f) = true) : DefIn K x st := ⟨f, _, a, fun_mk l c k⟩
theorem def_t {h : Heap} {occ : Value} {occd : Option Addr} {vs : Array Value} {ccs : Array (Option Value)} (a : PySem.W.nsIn K mainGlobals x = some (some (.ref f))) (l : K.lookup f = some ⟨oc, od, .func (PySem.W.fnOf x x (defArgs st) (defBody st) (defScope st) .none kV doc pm an (.ref c) ct), osl⟩) (cc : PySem.W.codeIn K (.ref c) x = true) (k : PySem.W.keepIn K (.ref f) = true)
    (lc : K.lookup c = some ⟨occ, occd, .fields vs, ccs⟩) (v11 : vs[11]? = some (.ref Pt)) (t : PySem.W.codeHdIn K c Pt = true) (n : K.lookup Pt = none) (hP : h.get? Pt = some { cls := .none, data := .fields #[] }) : DefT K h x st c Pt := ⟨⟨f, _, a, fun_mk l cc k, rfl, t, n⟩, hP⟩
theorem meth_in (a : PySem.W.findIn K (.ref C) m = some (some (.ref f))) (i : PySem.W.isFn K (.ref f) = true) (l : K.lookup f = some ⟨oc, od, .func (PySem.W.fnOf m qual (defArgs st) (defBody st) (defScope st) .none kV doc pm an cdv ct), osl⟩) (c : PySem.W.codeIn K cdv qual = true) (k : PySem.W.keepIn K (.ref f) = true) : MethIn K C m qual st := ⟨f, _, ⟨a, i, k⟩, fun_mk l c k⟩
theorem init_in (a : PySem.W.findIn K (.ref C) "__init__" = some (some (.ref f))) (i : PySem.W.isFn K (.ref f) = true) (l : K.lookup f = some ⟨oc, od, .func (PySem.W.fnOf "__init__" qual (defArgs st) (defBody st) (defScope st) .none kV doc pm an cdv ct), osl⟩) (c : PySem.W.codeIn K cdv qual = true) (k : PySem.W.keepIn K (.ref f) = true) (mk : PySem.W.makesIn K C = true) (kc : PySem.W.keepIn K (.ref C) = true) : InitIn K C qual st := ⟨f, _, ⟨mk, a, i, kc⟩, fun_mk l c k⟩
theorem triples0 : TriplesOk (#[] : Array Value).toList := by first | exact .nil | trivial | simp [TriplesOk]
theorem tab0 {Pt : Addr} {q : Str} {H : Hp} (h : H Pt = some (.tbl #[])) : TabS H Pt q := ⟨#[], h, triples0, fun pos cv hc => by cases hc⟩
end
theorem noattr_of {K : PySem.W.Frag} {C : Addr} {f : Str} (h : PySem.W.findIn K (.ref C) f = some none) : NoAttr K C f := h
section
open PySem.W PySem.ErX PySem.HandSPX
theorem err_mk {prog : Program} {K : Frag} {h : Heap} {mg : Str → Option Value} {nm : Str} {C fI cc cda : Addr} (X : K.In h) (G : h.Ns mainGlobals mg)
    {n q : Str} {N : Addr} {bs bm : List Value} {sn : List Str} {sub : List Value} {ab : Bool} {col : Option Bool} {dd : Option Addr} {k0 k1 k2 k3 k5 : Option Value}
    {qn : Str} {oc : Value} {od : Option Addr} {doc pm : Value} {an : Option Addr} {ct : Value} {osl : Array (Option Value)} {msg : Str} {p1 p2 q1 q2 q3 q4 q5 q6 r1 r2 r3 r4 : Pos} {kk : Nat}
    {cl : Value} {cld : Option Addr} {csl : Array (Option Value)} {ccl : Value} {cdd : Option Addr} {vs : Array Value} {ccs : Array (Option Value)} {file : Str} {tf : Tok}
    (a1 : nsIn K mainGlobals nm = some (some (.ref C))) (a2 : K.lookup C = some (excClassObj n q C N bs bm true sn sub ab col dd k0 k1 k2 k3 k5 "ValueError.__new__")) (a3 : refsVE bm = true)
    (a4 : findIn K (.ref C) "__setattr__" = some (some (.builtin "object.__setattr__"))) (a5 : findIn K (.ref C) "__getattribute__" = some (some (.builtin "BaseException.__getattribute__"))) (a6 : findIn K (.ref C) "__getattr__" = some none)
    (a7 : findIn K (.ref C) "at" = some none) (a8 : findIn K (.ref C) "__init__" = some (some (.ref fI))) (a9 : typeIn K (.ref fI) = some (.type "function")) (b1 : keepIn K (.ref C) = true) (b2 : subIn K (.ref C) (.type "BaseException") = some true)
    (b3 : subIn K (.ref C) (.type "ValueError") = some true) (b4 : typeIn K (.ref C) = some (.type "type")) (b5 : hasDictIn K C = true)
    (c1 : K.lookup fI = some ⟨oc, od, .func (ksFn "__init__" qn (iA p1 p2) (iB msg q1 q2 q3 q4 q5 q6 r1 r2 r3 r4 kk) iS .none .none doc pm an (.ref cda) ct cc), osl⟩) (c2 : codeIn K (.ref cda) qn = true) (c3 : HeOk msg q1 q2 q3 q4 q5 kk)
    (c4 : K.lookup cc = some ⟨cl, cld, .cell (some (.ref C)), csl⟩) (c5 : K.lookup cda = some ⟨ccl, cdd, .fields vs, ccs⟩) (c6 : vs[2]? = some (.str file tf)) (c7 : ((prog.main.file : Str) == file) = true)
    (b6 : ks_superIn K C C "__init__" = some (some (.builtin "ValueError.__init__"))) (b7 : mroIn K C (.ref C) = some true) (b8 : nsIn K mainGlobals "super" = some none) (b9 : nsIn K cStatics "thirdparty.any" = some none)
    (c8 : (prog.main.scope.names.lookup ("super" : Str)).isSome = false) : ErrTxt prog K mg nm C fI cc cda where
  gC := mg_of X G a1
  cls := ⟨n, q, N, bs, bm, sn, sub, ab, col, dd, k0, k1, k2, k3, k5, a2, a3⟩
  sa := a4
  ga := a5
  gg := a6
  noN := a7
  iC := a8
  tC := a9
  kC := b1
  exC := b2
  veC := b3
  tyC := b4
  hdC := b5
  suC := b6
  me := b7
  ns := b8
  no := b9
  fn := ⟨qn, oc, od, doc, pm, an, ct, osl, msg, p1, p2, q1, q2, q3, q4, q5, q6, r1, r2, r3, r4, kk, c1, c2, c3⟩
  cell := ⟨cl, cld, csl, c4⟩
  code := ⟨ccl, cdd, vs, ccs, file, tf, c5, c6, c7⟩
  top := c8
end
theorem exk_mk {P : Program} {K : PySem.W.Frag} {h : Heap} {mg : Str → Option Value} {ER : Ers P K mg} {m : Addr} (X : K.In h) (G : h.Ns mainGlobals mg) (e : PySem.W.nsIn K mainGlobals "MapsError" = some (some (.ref m))) (eNN : PySem.W.exmOne K (.ref ER.cN) (.ref ER.cN) = some true) (eSN : PySem.W.exmOne K (.ref ER.cS) (.ref ER.cN) = some false) (eSS : PySem.W.exmOne K (.ref ER.cS) (.ref ER.cS) = some true) (eLN : PySem.W.exmOne K (.ref ER.cL) (.ref ER.cN) = some false) (eLS : PySem.W.exmOne K (.ref ER.cL) (.ref ER.cS) = some false) (eLL : PySem.W.exmOne K (.ref ER.cL) (.ref ER.cL) = some true) (ePN : PySem.W.exmOne K (.ref ER.cP) (.ref ER.cN) = some false) (ePS : PySem.W.exmOne K (.ref ER.cP) (.ref ER.cS) = some false) (ePL : PySem.W.exmOne K (.ref ER.cP) (.ref ER.cL) = some false) (ePP : PySem.W.exmOne K (.ref ER.cP) (.ref ER.cP) = some true) (eDN : PySem.W.exmOne K (.ref ER.cD) (.ref ER.cN) = some false) (eDS : PySem.W.exmOne K (.ref ER.cD) (.ref ER.cS) = some false) (eDL : PySem.W.exmOne K (.ref ER.cD) (.ref ER.cL) = some false) (eDP : PySem.W.exmOne K (.ref ER.cD) (.ref ER.cP) = some false) (eDD : PySem.W.exmOne K (.ref ER.cD) (.ref ER.cD) = some true) : ExK P K mg ER := ⟨eNN, eSN, eSS, eLN, eLS, eLL, ePN, ePS, ePL, ePP, eDN, eDS, eDL, eDP, eDD, m, PySem.W.mg_of X G e⟩
end Y
/-! part D1 -/
/-! The law's promise, from what the written part says. -/
namespace Y
open PySem LamX L2
theorem law_at {l : PySem.W.OpenLaw} {w : World} {K : PySem.W.Frag} {h : Heap} {mg : Str → Option Value} {fa CD c0 c1 c2 P0 P1 P2 : Addr} {t1 t2 : Tok} (X : K.In h) (G : h.Ns mainGlobals mg) (hfa : mg "law" = some (.ref fa))
    (d_is_number : DefIn K "is_number" s_is_number) (d_is_row : DefIn K "is_row" s_is_row) (d_lot_within : DefIn K "lot_within" s_lot_within)
    (d_is_size : DefIn K "is_size" s_is_size) (d_is_plain : DefIn K "is_plain" s_is_plain) (d_is_key : DefIn K "is_key" s_is_key)
    (d_is_page : DefIn K "is_page" s_is_page) (d_laid_over : DefIn K "laid_over" s_laid_over) (d_page_behind : DefIn K "page_behind" s_page_behind)
    (d_is_entry : DefIn K "is_entry" s_is_entry) (d_are_slots : DefIn K "are_slots" s_are_slots) (d_read_half : DefIn K "read_half" s_read_half)
    (d_read_back : DefIn K "read_back" s_read_back) (d_box : DefIn K "_law_box" s_box) (d_take : DefIn K "_law_take" s_take)
    (d_pick : DefIn K "_law_pick" s_pick) (d_same : DefIn K "_law_same" s_same) (d_key : DefIn K "_law_key" s_key)
    (d_value : DefIn K "_law_value" s_value) (d_row : DefIn K "_law_row" s_row) (d_no_page : DefIn K "_law_no_page" s_no_page)
    (d_over : DefIn K "_law_over" s_over) (d_half : DefIn K "_law_half" s_half) (d_read : DefIn K "_law_read" s_read)
    (d_disk : DefIn K "_law_disk" s_disk) (d_put : DefIn K "_law_put" s_put) (d_safe : DefIn K "_law_safe" s_safe)
    (d_cut : DefIn K "_law_cut" s_cut) (d_book : DefIn K "_law_book" s_book) (d_add : DefIn K "_law_add" s_add)
    (d_heard : DefIn K "_law_heard" s_heard) (d_filled : DefIn K "_law_filled" s_filled) (d_spoilt : DefIn K "_law_spoilt" s_spoilt)
    (d_halves : DefIn K "_law_halves" s_halves) (d_none : DefIn K "_law_none" s_none) (d_lots : DefIn K "_law_lots" s_lots)
    (d_disks : DefIn K "_law_disks" s_disks) (d_pages : DefT K h "_law_pages" s_pages c0 P0) (d_disk_refused : DefT K h "_law_disk_refused" s_disk_refused c1 P1)
    (d_law : DefT K h "law" s_law c2 P2) (n01 : P0 ≠ P1) (n02 : P0 ≠ P2) (n12 : P1 ≠ P2) (m_Disk_put : MethIn K CD "put" "Disk.put" s_Disk_put)
    (m_Disk_flush : MethIn K CD "flush" "Disk.flush" s_Disk_flush) (m_Disk_fall : MethIn K CD "fall" "Disk.fall" s_Disk_fall) (i_Disk : InitIn K CD "Disk.__init__" s_Disk___init__)
    (gD : PySem.W.nsIn K mainGlobals "Disk" = some (some (.ref CD))) (D : DiskC K CD) (ER : Ers l.prog K mg) (EK : ExK l.prog K mg ER) (z1 : PySem.W.nsIn K mainGlobals "LEAST_SLOTS" = some (some (.int 4 t1))) (z2 : PySem.W.nsIn K mainGlobals "MOST_SLOTS" = some (some (.int 64 t2))) (z_isinstance : PySem.W.nsIn K mainGlobals "isinstance" = some none)
    (z_len : PySem.W.nsIn K mainGlobals "len" = some none) (z_tuple : PySem.W.nsIn K mainGlobals "tuple" = some none) (z_list : PySem.W.nsIn K mainGlobals "list" = some none)
    (z_int : PySem.W.nsIn K mainGlobals "int" = some none) (z_str : PySem.W.nsIn K mainGlobals "str" = some none) (z_bool : PySem.W.nsIn K mainGlobals "bool" = some none)
    (z_all : PySem.W.nsIn K mainGlobals "all" = some none) (z_max : PySem.W.nsIn K mainGlobals "max" = some none) (z_min : PySem.W.nsIn K mainGlobals "min" = some none)
    (z_range : PySem.W.nsIn K mainGlobals "range" = some none) (z_sorted : PySem.W.nsIn K mainGlobals "sorted" = some none) (z_abs : PySem.W.nsIn K mainGlobals "abs" = some none) :
    LawAtS l w K (L2.CX l.prog w) 14 63 "script" mg fa h := by
  obtain ⟨f_is_number, e_is_number, n_is_number, F_is_number⟩ := d_is_number.ex
  have h_is_number := PySem.W.mg_of X G n_is_number
  have b_is_number := F_is_number.binds (ps := ["value"]) fun _ _ _ _ _ _ us hl => match us, hl with | [_], _ => rfl
  obtain ⟨f_is_row, e_is_row, n_is_row, F_is_row⟩ := d_is_row.ex
  have h_is_row := PySem.W.mg_of X G n_is_row
  have b_is_row := F_is_row.binds (ps := ["value"]) fun _ _ _ _ _ _ us hl => match us, hl with | [_], _ => rfl
  obtain ⟨f_lot_within, e_lot_within, n_lot_within, F_lot_within⟩ := d_lot_within.ex
  have h_lot_within := PySem.W.mg_of X G n_lot_within
  have b_lot_within := F_lot_within.binds (ps := ["value", "many"]) fun _ _ _ _ _ _ us hl => match us, hl with | [_, _], _ => rfl
  obtain ⟨f_is_size, e_is_size, n_is_size, F_is_size⟩ := d_is_size.ex
  have h_is_size := PySem.W.mg_of X G n_is_size
  have b_is_size := F_is_size.binds (ps := ["value"]) fun _ _ _ _ _ _ us hl => match us, hl with | [_], _ => rfl
  obtain ⟨f_is_plain, e_is_plain, n_is_plain, F_is_plain⟩ := d_is_plain.ex
  have h_is_plain := PySem.W.mg_of X G n_is_plain
  have b_is_plain := F_is_plain.binds (ps := ["value"]) fun _ _ _ _ _ _ us hl => match us, hl with | [_], _ => rfl
  obtain ⟨f_is_key, e_is_key, n_is_key, F_is_key⟩ := d_is_key.ex
  have h_is_key := PySem.W.mg_of X G n_is_key
  have b_is_key := F_is_key.binds (ps := ["value"]) fun _ _ _ _ _ _ us hl => match us, hl with | [_], _ => rfl
  obtain ⟨f_is_page, e_is_page, n_is_page, F_is_page⟩ := d_is_page.ex
  have h_is_page := PySem.W.mg_of X G n_is_page
  have b_is_page := F_is_page.binds (ps := ["value"]) fun _ _ _ _ _ _ us hl => match us, hl with | [_], _ => rfl
  obtain ⟨f_laid_over, e_laid_over, n_laid_over, F_laid_over⟩ := d_laid_over.ex
  have h_laid_over := PySem.W.mg_of X G n_laid_over
  have b_laid_over := F_laid_over.binds (ps := ["page", "row"]) fun _ _ _ _ _ _ us hl => match us, hl with | [_, _], _ => rfl
  obtain ⟨f_page_behind, e_page_behind, n_page_behind, F_page_behind⟩ := d_page_behind.ex
  have h_page_behind := PySem.W.mg_of X G n_page_behind
  have b_page_behind := F_page_behind.binds (ps := ["page", "row"]) fun _ _ _ _ _ _ us hl => match us, hl with | [_, _], _ => rfl
  obtain ⟨f_is_entry, e_is_entry, n_is_entry, F_is_entry⟩ := d_is_entry.ex
  have h_is_entry := PySem.W.mg_of X G n_is_entry
  have b_is_entry := F_is_entry.binds (ps := ["value"]) fun _ _ _ _ _ _ us hl => match us, hl with | [_], _ => rfl
  obtain ⟨f_are_slots, e_are_slots, n_are_slots, F_are_slots⟩ := d_are_slots.ex
  have h_are_slots := PySem.W.mg_of X G n_are_slots
  have b_are_slots := F_are_slots.binds (ps := ["value"]) fun _ _ _ _ _ _ us hl => match us, hl with | [_], _ => rfl
  obtain ⟨f_read_half, e_read_half, n_read_half, F_read_half⟩ := d_read_half.ex
  have h_read_half := PySem.W.mg_of X G n_read_half
  have b_read_half := F_read_half.binds (ps := ["slots", "half"]) fun _ _ _ _ _ _ us hl => match us, hl with | [_, _], _ => rfl
  obtain ⟨f_read_back, e_read_back, n_read_back, F_read_back⟩ := d_read_back.ex
  have h_read_back := PySem.W.mg_of X G n_read_back
  have b_read_back := F_read_back.binds (ps := ["slots"]) fun _ _ _ _ _ _ us hl => match us, hl with | [_], _ => rfl
  obtain ⟨f_box, e_box, n_box, F_box⟩ := d_box.ex
  have h_box := PySem.W.mg_of X G n_box
  have b_box := F_box.binds (ps := ["script", "k"]) fun _ _ _ _ _ _ us hl => match us, hl with | [_, _], _ => rfl
  obtain ⟨f_take, e_take, n_take, F_take⟩ := d_take.ex
  have h_take := PySem.W.mg_of X G n_take
  have b_take := F_take.binds (ps := ["box", "many"]) fun _ _ _ _ _ _ us hl => match us, hl with | [_, _], _ => rfl
  obtain ⟨f_pick, e_pick, n_pick, F_pick⟩ := d_pick.ex
  have h_pick := PySem.W.mg_of X G n_pick
  have b_pick := F_pick.binds (ps := ["box", "some"]) fun _ _ _ _ _ _ us hl => match us, hl with | [_, _], _ => rfl
  obtain ⟨f_same, e_same, n_same, F_same⟩ := d_same.ex
  have h_same := PySem.W.mg_of X G n_same
  have b_same := F_same.binds (ps := ["one", "other"]) fun _ _ _ _ _ _ us hl => match us, hl with | [_, _], _ => rfl
  obtain ⟨f_key, e_key, n_key, F_key⟩ := d_key.ex
  have h_key := PySem.W.mg_of X G n_key
  have b_key := F_key.binds (ps := ["box", "wide"]) fun _ _ _ _ _ _ us hl => match us, hl with | [_, _], _ => rfl
  obtain ⟨f_value, e_value, n_value, F_value⟩ := d_value.ex
  have h_value := PySem.W.mg_of X G n_value
  have b_value := F_value.binds (ps := ["box"]) fun _ _ _ _ _ _ us hl => match us, hl with | [_], _ => rfl
  obtain ⟨f_row, e_row, n_row, F_row⟩ := d_row.ex
  have h_row := PySem.W.mg_of X G n_row
  have b_row := F_row.binds (ps := ["box", "most", "wide"]) fun _ _ _ _ _ _ us hl => match us, hl with | [_, _, _], _ => rfl
  obtain ⟨f_no_page, e_no_page, n_no_page, F_no_page⟩ := d_no_page.ex
  have h_no_page := PySem.W.mg_of X G n_no_page
  have b_no_page := F_no_page.binds (ps := ["box", "page", "thing"]) fun _ _ _ _ _ _ us hl => match us, hl with | [_, _, _], _ => rfl
  obtain ⟨f_over, e_over, n_over, F_over⟩ := d_over.ex
  have h_over := PySem.W.mg_of X G n_over
  have b_over := F_over.binds (ps := ["page", "row"]) fun _ _ _ _ _ _ us hl => match us, hl with | [_, _], _ => rfl
  obtain ⟨f_half, e_half, n_half, F_half⟩ := d_half.ex
  have h_half := PySem.W.mg_of X G n_half
  have b_half := F_half.binds (ps := ["slots", "half"]) fun _ _ _ _ _ _ us hl => match us, hl with | [_, _], _ => rfl
  obtain ⟨f_read, e_read, n_read, F_read⟩ := d_read.ex
  have h_read := PySem.W.mg_of X G n_read
  have b_read := F_read.binds (ps := ["slots"]) fun _ _ _ _ _ _ us hl => match us, hl with | [_], _ => rfl
  obtain ⟨f_disk, e_disk, n_disk, F_disk⟩ := d_disk.ex
  have h_disk := PySem.W.mg_of X G n_disk
  have b_disk := F_disk.binds (ps := ["many"]) fun _ _ _ _ _ _ us hl => match us, hl with | [_], _ => rfl
  obtain ⟨f_put, e_put, n_put, F_put⟩ := d_put.ex
  have h_put := PySem.W.mg_of X G n_put
  have b_put := F_put.binds (ps := ["disk", "slot", "entry"]) fun _ _ _ _ _ _ us hl => match us, hl with | [_, _, _], _ => rfl
  obtain ⟨f_safe, e_safe, n_safe, F_safe⟩ := d_safe.ex
  have h_safe := PySem.W.mg_of X G n_safe
  have b_safe := F_safe.binds (ps := ["disk"]) fun _ _ _ _ _ _ us hl => match us, hl with | [_], _ => rfl
  obtain ⟨f_cut, e_cut, n_cut, F_cut⟩ := d_cut.ex
  have h_cut := PySem.W.mg_of X G n_cut
  have b_cut := F_cut.binds (ps := ["disk", "kept"]) fun _ _ _ _ _ _ us hl => match us, hl with | [_, _], _ => rfl
  obtain ⟨f_book, e_book, n_book, F_book⟩ := d_book.ex
  have h_book := PySem.W.mg_of X G n_book
  have b_book := F_book.binds (ps := ["disk", "first"]) fun _ _ _ _ _ _ us hl => match us, hl with | [_, _], _ => rfl
  obtain ⟨f_add, e_add, n_add, F_add⟩ := d_add.ex
  have h_add := PySem.W.mg_of X G n_add
  have b_add := F_add.binds (ps := ["disk", "book", "row"]) fun _ _ _ _ _ _ us hl => match us, hl with | [_, _, _], _ => rfl
  obtain ⟨f_heard, e_heard, n_heard, F_heard⟩ := d_heard.ex
  have h_heard := PySem.W.mg_of X G n_heard
  have b_heard := F_heard.binds (ps := ["work"]) fun _ _ _ _ _ _ us hl => match us, hl with | [_], _ => rfl
  obtain ⟨f_filled, e_filled, n_filled, F_filled⟩ := d_filled.ex
  have h_filled := PySem.W.mg_of X G n_filled
  have b_filled := F_filled.binds (ps := ["box", "many"]) fun _ _ _ _ _ _ us hl => match us, hl with | [_, _], _ => rfl
  obtain ⟨f_spoilt, e_spoilt, n_spoilt, F_spoilt⟩ := d_spoilt.ex
  have h_spoilt := PySem.W.mg_of X G n_spoilt
  have b_spoilt := F_spoilt.binds (ps := ["box", "slots"]) fun _ _ _ _ _ _ us hl => match us, hl with | [_, _], _ => rfl
  obtain ⟨f_halves, e_halves, n_halves, F_halves⟩ := d_halves.ex
  have h_halves := PySem.W.mg_of X G n_halves
  have b_halves := F_halves.binds (ps := ["box", "many"]) fun _ _ _ _ _ _ us hl => match us, hl with | [_, _], _ => rfl
  obtain ⟨f_none, e_none, n_none, F_none⟩ := d_none.ex
  have h_none := PySem.W.mg_of X G n_none
  have b_none := F_none.binds (ps := ["box", "slots", "thing"]) fun _ _ _ _ _ _ us hl => match us, hl with | [_, _, _], _ => rfl
  obtain ⟨f_lots, e_lots, n_lots, F_lots⟩ := d_lots.ex
  have h_lots := PySem.W.mg_of X G n_lots
  have b_lots := F_lots.binds (ps := ["many"]) fun _ _ _ _ _ _ us hl => match us, hl with | [_], _ => rfl
  obtain ⟨f_disks, e_disks, n_disks, F_disks⟩ := d_disks.ex
  have h_disks := PySem.W.mg_of X G n_disks
  have b_disks := F_disks.binds (ps := ["box", "many"]) fun _ _ _ _ _ _ us hl => match us, hl with | [_, _], _ => rfl
  obtain ⟨⟨f_pages, e_pages, n_pages, F_pages, hcd0, ht0, nP0⟩, hP0⟩ := d_pages
  have h_pages := PySem.W.mg_of X G n_pages
  have b_pages := F_pages.binds (ps := ["box", "thing"]) fun _ _ _ _ _ _ us hl => match us, hl with | [_, _], _ => rfl
  obtain ⟨⟨f_disk_refused, e_disk_refused, n_disk_refused, F_disk_refused, hcd1, ht1, nP1⟩, hP1⟩ := d_disk_refused
  have h_disk_refused := PySem.W.mg_of X G n_disk_refused
  have b_disk_refused := F_disk_refused.binds (ps := ["box", "disk", "many", "count"]) fun _ _ _ _ _ _ us hl => match us, hl with | [_, _, _, _], _ => rfl
  obtain ⟨⟨f_law, e_law, n_law, F_law, hcd2, ht2, nP2⟩, hP2⟩ := d_law
  have h_law := PySem.W.mg_of X G n_law
  have b_law := F_law.binds (ps := ["script"]) fun _ _ _ _ _ _ us hl => match us, hl with | [_], _ => rfl
  obtain ⟨f_Disk_put, e_Disk_put, M_Disk_put, F_Disk_put⟩ := m_Disk_put.ex
  have b_Disk_put := F_Disk_put.binds (ps := ["self", "slot", "entry"]) fun _ _ _ _ _ _ us hl => match us, hl with | [_, _, _], _ => rfl
  obtain ⟨f_Disk_flush, e_Disk_flush, M_Disk_flush, F_Disk_flush⟩ := m_Disk_flush.ex
  have b_Disk_flush := F_Disk_flush.binds (ps := ["self"]) fun _ _ _ _ _ _ us hl => match us, hl with | [_], _ => rfl
  obtain ⟨f_Disk_fall, e_Disk_fall, M_Disk_fall, F_Disk_fall⟩ := m_Disk_fall.ex
  have b_Disk_fall := F_Disk_fall.binds (ps := ["self", "kept"]) fun _ _ _ _ _ _ us hl => match us, hl with | [_, _], _ => rfl
  obtain ⟨f_Disk, e_Disk, M_Disk, F_Disk⟩ := i_Disk.ex
  have b_Disk := F_Disk.binds (ps := ["self", "many"]) fun _ _ _ _ _ _ us hl => match us, hl with | [_, _], _ => rfl
  have T : Bt mg := ⟨PySem.W.mg_none_of X G z_isinstance, PySem.W.mg_none_of X G z_len, PySem.W.mg_none_of X G z_tuple, PySem.W.mg_none_of X G z_list, PySem.W.mg_none_of X G z_int, PySem.W.mg_none_of X G z_str, PySem.W.mg_none_of X G z_bool, PySem.W.mg_none_of X G z_all, PySem.W.mg_none_of X G z_max, PySem.W.mg_none_of X G z_min, PySem.W.mg_none_of X G z_range, PySem.W.mg_none_of X G z_sorted, PySem.W.mg_none_of X G z_abs, ⟨_, PySem.W.mg_of X G z1⟩, ⟨_, PySem.W.mg_of X G z2⟩⟩
  have hD := PySem.W.mg_of X G gD
  have hlaw : f_law = fa := by have := h_law.symm.trans hfa; cases this; rfl
  subst hlaw
  have huT : ∀ (i : Nat) (p : Addr × Str), p ∈ [(P0, qLam "_law_pages" (defScope s_pages)), (P1, qLam "_law_disk_refused" (defScope s_disk_refused)), (P2, qLam "law" (defScope s_law))] → (p.1 = P0 → p.2 = qLam "_law_pages" (defScope s_pages)) ∧ (p.1 = P1 → p.2 = qLam "_law_disk_refused" (defScope s_disk_refused)) ∧ (p.1 = P2 → p.2 = qLam "law" (defScope s_law)) := fun _ p hp => by
    simp only [List.mem_cons, List.not_mem_nil, or_false] at hp
    rcases hp with rfl | rfl | rfl
    · exact ⟨fun _ => rfl, fun z => absurd z n01, fun z => absurd z n02⟩
    · exact ⟨fun z => absurd z.symm n01, fun _ => rfl, fun z => absurd z n12⟩
    · exact ⟨fun z => absurd z.symm n02, fun z => absurd z.symm n12, fun _ => rfl⟩
  obtain ⟨TT, eTT⟩ : ∃ TT, TT = [(P0, qLam "_law_pages" (defScope s_pages)), (P1, qLam "_law_disk_refused" (defScope s_disk_refused)), (P2, qLam "law" (defScope s_law))] := ⟨_, rfl⟩
  rw [← eTT] at huT
  have m0 : (P0, qLam "_law_pages" (defScope s_pages)) ∈ TT := by rw [eTT]; simp
  have m1 : (P1, qLam "_law_disk_refused" (defScope s_disk_refused)) ∈ TT := by rw [eTT]; simp
  have m2 : (P2, qLam "law" (defScope s_law)) ∈ TT := by rw [eTT]; simp
  have mem3 : ∀ p ∈ [(c0, P0), (c1, P1), (c2, P2)], p = (c0, P0) ∨ p = (c1, P1) ∨ p = (c2, P2) := fun p hp => by simpa using hp
  refine ⟨e_law, [(c0, P0), (c1, P1), (c2, P2)], spLaw K TT, fun p hp => ?_, fun p hp => ?_, fun p hp => ?_, fun s u => ?_, fun H a ns hl hb hT hS => ?_, fun base hK hN hTB => ?_⟩
  · rcases mem3 p hp with rfl | rfl | rfl
    · exact hP0
    · exact hP1
    · exact hP2
  · rcases mem3 p hp with rfl | rfl | rfl
    · exact nP0
    · exact nP1
    · exact nP2
  · rcases mem3 p hp with rfl | rfl | rfl
    · exact PySem.W.codeHd_of_K X ht0
    · exact PySem.W.codeHd_of_K X ht1
    · exact PySem.W.codeHd_of_K X ht2
  · obtain ⟨oc, od, kV, doc, pm, an, cdv, ct, osl, rfl, lk, hc⟩ := F_law.ex
    exact .of_eq rfl
  · refine ⟨a, ns, rfl, hS, fun p hp => ?_, fun _ => rfl⟩
    rw [eTT] at hp
    simp only [List.mem_cons, List.not_mem_nil, or_false] at hp
    rcases hp with rfl | rfl | rfl
    · exact tab0 (hT (c0, P0) (by simp))
    · exact tab0 (hT (c1, P1) (by simp))
    · exact tab0 (hT (c2, P2) (by simp))
  · have TB0 : TabB base mg c0 P0 := hTB (c0, P0) (by simp)
    have TB1 : TabB base mg c1 P1 := hTB (c1, P1) (by simp)
    have TB2 : TabB base mg c2 P2 := hTB (c2, P2) (by simp)
    have c_is_number := ok_is_number (P := l.prog) (w := w) (mg := mg) (base := base) F_is_number h_is_number b_is_number T
    have c_is_row := ok_is_row (P := l.prog) (w := w) (mg := mg) (base := base) F_is_row h_is_row b_is_row T
    have c_lot_within := ok_lot_within (P := l.prog) (w := w) (mg := mg) (base := base) F_lot_within h_lot_within b_lot_within T c_is_number c_is_row
    have c_is_size := ok_is_size (P := l.prog) (w := w) (mg := mg) (base := base) F_is_size h_is_size b_is_size T c_is_number
    have cDisk := mk_Disk (P := l.prog) (w := w) (mg := mg) (base := base) ER M_Disk D F_Disk hD b_Disk T c_is_size
    have m_Disk_put := ok_put (P := l.prog) (w := w) (mg := mg) (base := base) ER D M_Disk_put F_Disk_put b_Disk_put T c_is_number
    have m_Disk_flush := ok_flush (P := l.prog) (w := w) (mg := mg) (base := base) D M_Disk_flush F_Disk_flush b_Disk_flush 
    have m_Disk_fall := ok_fall (P := l.prog) (w := w) (mg := mg) (base := base) ER D M_Disk_fall F_Disk_fall b_Disk_fall T c_lot_within
    have c_is_plain := ok_is_plain (P := l.prog) (w := w) (mg := mg) (base := base) F_is_plain h_is_plain b_is_plain T
    have c_is_key := ok_is_key (P := l.prog) (w := w) (mg := mg) (base := base) F_is_key h_is_key b_is_key T c_is_number
    have c_is_page := ok_is_page (P := l.prog) (w := w) (mg := mg) (base := base) F_is_page h_is_page b_is_page T c_is_key c_is_plain
    have c_laid_over := ok_laid_over (P := l.prog) (w := w) (mg := mg) (base := base) F_laid_over h_laid_over b_laid_over T
    have c_page_behind := ok_page_behind (P := l.prog) (w := w) (mg := mg) (base := base) F_page_behind h_page_behind b_page_behind T ER c_is_page c_laid_over
    have c_is_entry := ok_is_entry (P := l.prog) (w := w) (mg := mg) (base := base) F_is_entry h_is_entry b_is_entry T c_is_number c_is_page
    have c_are_slots := ok_are_slots (P := l.prog) (w := w) (mg := mg) (base := base) F_are_slots h_are_slots b_are_slots T c_is_row c_is_size c_is_entry
    have c_read_half := ok_read_half (P := l.prog) (w := w) (mg := mg) (base := base) F_read_half h_read_half b_read_half T c_laid_over
    have c_read_back := ok_read_back (P := l.prog) (w := w) (mg := mg) (base := base) F_read_back h_read_back b_read_back T ER c_are_slots c_read_half
    have c_take := ok_take (P := l.prog) (w := w) (mg := mg) (base := base) F_take h_take b_take T
    have c_pick := ok_pick (P := l.prog) (w := w) (mg := mg) (base := base) F_pick h_pick b_pick T c_take
    have c_box := ok_box (P := l.prog) (w := w) (mg := mg) (base := base) F_box h_box b_box T
    have c_same := ok_same (P := l.prog) (w := w) (mg := mg) (base := base) F_same h_same b_same T 10
    have c_key := ok_key (P := l.prog) (w := w) (mg := mg) (base := base) F_key h_key b_key T c_take c_pick
    have c_value := ok_value (P := l.prog) (w := w) (mg := mg) (base := base) F_value h_value b_value T c_take c_pick
    have c_row := ok_row (P := l.prog) (w := w) (mg := mg) (base := base) F_row h_row b_row T c_take c_key c_value
    have c_over := ok_over (P := l.prog) (w := w) (mg := mg) (base := base) F_over h_over b_over T
    have c_half := ok_half (P := l.prog) (w := w) (mg := mg) (base := base) F_half h_half b_half T c_over
    have c_read := ok_read (P := l.prog) (w := w) (mg := mg) (base := base) F_read h_read b_read T c_half
    have c_put := ok_putD (P := l.prog) (w := w) (mg := mg) (base := base) F_put h_put b_put T
    have c_safe := ok_safeD (P := l.prog) (w := w) (mg := mg) (base := base) F_safe h_safe b_safe T
    have c_disk := ok_disk (P := l.prog) (w := w) (mg := mg) (base := base) F_disk h_disk b_disk T
    have c_cut := ok_cutD (P := l.prog) (w := w) (mg := mg) (base := base) F_cut h_cut b_cut T
    have c_putL := put_of c_put
    have c_safeL := safe_of c_safe
    have c_cutL := cut_of c_cut
    have c_book := ok_book (P := l.prog) (w := w) (mg := mg) (base := base) F_book h_book b_book T c_read c_putL c_safeL
    have c_add := ok_add (P := l.prog) (w := w) (mg := mg) (base := base) F_add h_add b_add T c_over c_putL c_safeL
    have c_no_page := ok_no_page (P := l.prog) (w := w) (mg := mg) (base := base) F_no_page h_no_page b_no_page T c_pick
    have c_filled := ok_filled (P := l.prog) (w := w) (mg := mg) (base := base) F_filled h_filled b_filled T c_disk c_book c_row c_pick c_take c_add c_cutL
    have c_spoilt := ok_spoilt (P := l.prog) (w := w) (mg := mg) (base := base) F_spoilt h_spoilt b_spoilt T c_row c_pick c_take
    have c_halves := ok_halves (P := l.prog) (w := w) (mg := mg) (base := base) F_halves h_halves b_halves T c_row c_pick c_take
    have c_none := ok_none (P := l.prog) (w := w) (mg := mg) (base := base) F_none h_none b_none T c_pick c_take c_no_page
    have c_lots := ok_lots (P := l.prog) (w := w) (mg := mg) (base := base) F_lots h_lots b_lots T
    have c_pages := ok_pages (P := l.prog) (w := w) (mg := mg) (base := base) ER EK F_pages hcd0 TB0 m0 (fun p hp => (huT 0 p hp).1) h_pages b_pages T F_heard h_heard b_heard c_row c_pick c_no_page c_same c_over c_page_behind
    have c_disk_refused := ok_disk_refused (P := l.prog) (w := w) (mg := mg) (base := base) ER EK D F_disk_refused hcd1 TB1 m1 (fun p hp => (huT 0 p hp).2.1) h_disk_refused b_disk_refused T F_heard h_heard b_heard c_pick c_same cDisk m_Disk_put m_Disk_fall
    have c_disks := ok_disks (P := l.prog) (w := w) (mg := mg) (base := base) ER D F_disks h_disks b_disks T c_take c_pick c_same c_lots c_disk c_put c_safe c_cut c_disk_refused cDisk m_Disk_put m_Disk_flush m_Disk_fall
    exact ok_law (P := l.prog) (w := w) (mg := mg) (base := base) ER EK D F_law hcd2 TB2 m2 (fun p hp => (huT 0 p hp).2.2) h_law b_law T F_heard h_heard b_heard c_box c_take c_pick c_filled c_spoilt c_halves c_read_back c_read c_same c_none c_pages c_disks cDisk
end Y
/-! part Z1 -/
namespace Y
open PySem LamX L2
theorem cx_no (P : Program) (w : World) (H : Hp) (s : Shared) (e : Value) (s' : Shared) (h : L2.CX P w [] H s (fun _ _ _ => False) e s') : False := by
  obtain ⟨_, _, _, _, _, _, _, _, _, _, _, _, z⟩ := h
  exact z
end Y
open PySem PySem.W PyProof.Rows
local macro_rules | `(tactic| walk_at "fact") => `(tactic| first | k_is | kernel_rfl | rfl | decide +kernel)
local macro_rules | `(tactic| walk_at "def") => `(tactic| (refine' Y.def_in ?a ?l ?c ?k; (case a => k_is); (case l => k_is); (case c => k_is); (case k => k_is)))
local macro_rules | `(tactic| walk_at "meth") => `(tactic| (refine' Y.meth_in ?a ?i ?l ?c ?k; (case a => k_is); (case i => k_is); (case l => k_is); (case c => k_is); (case k => k_is)))
local macro_rules | `(tactic| walk_at "init") => `(tactic| (refine' Y.init_in ?a ?i ?l ?c ?k ?m ?kc; (case a => k_is); (case i => k_is); (case l => k_is); (case c => k_is); (case k => k_is); (case m => k_is); (case kc => k_is)))
local macro_rules | `(tactic| walk_at "cls") => `(tactic| (refine' ⟨?a, ?b, ?c, ?d⟩; (case a => k_is); (case b => k_is); (case c => k_is); (case d => k_is)))
local macro_rules | `(tactic| walk_at "ins") => `(tactic| (refine' ⟨?cl, ?ha, ?hn, ?ht, ?hm, ?t1, ?t2, ?t3, ?t4, ?t5⟩; (case cl => walk_at "cls"); (case ha => k_is); (case hn => k_is); (case ht => k_is); (case hm => k_is); (case t1 => walk_at "fact"); (case t2 => walk_at "fact"); (case t3 => walk_at "fact"); (case t4 => walk_at "fact"); (case t5 => walk_at "fact")))
local macro_rules | `(tactic| walk_at "err") => `(tactic| (refine' Y.err_mk (by assumption) (by assumption) ?a1 ?a2 ?a3 ?a4 ?a5 ?a6 ?a7 ?a8 ?a9 ?b1 ?b2 ?b3 ?b4 ?b5 ?c1 ?c2 ?c3 ?c4 ?c5 ?c6 ?c7 ?b6 ?b7 ?b8 ?b9 ?c8; (case a1 => k_is); (case a2 => k_is); (case a3 => walk_at "fact"); (case a4 => k_is); (case a5 => k_is); (case a6 => k_is); (case a7 => k_is); (case a8 => k_is); (case a9 => k_is); (case b1 => k_is); (case b2 => k_is); (case b3 => k_is); (case b4 => k_is); (case b5 => k_is); (case c1 => k_is); (case c2 => k_is); (case c3 => exact ⟨_, fun _ => rfl⟩); (case c4 => k_is); (case c5 => k_is); (case c6 => exact rfl); (case c7 => walk_at "fact"); (case b6 => walk_at "fact"); (case b7 => k_is); (case b8 => k_is); (case b9 => k_is); (case c8 => walk_at "fact")))
set_option maxHeartbeats 0 in
theorem PySem.Challenge.cw_mapsapart_k66_whole_slots_read_back_and_holds : PySem.Challenge.rw_mapsapart_k66_whole_slots_read_back_and.Holds := by
  w_on; o_law; k_head; (case hw => w_witness2)
  k_fill
  refine LamX.walk_ofTs (l := PySem.Challenge.rw_mapsapart_k66_whole_slots_read_back_and) (n := 63) (k := 14) (x := "script") (CX := fun w => L2.CX (PySem.Challenge.rw_mapsapart_k66_whole_slots_read_back_and).prog w) rfl (by decide) rfl ⟨rfl, by decide, by decide⟩ (fun w h Y => PySem.W.km_in_of Y) ?F (fun w H s e s' h => Y.cx_no _ _ _ _ _ _ h)
  case F =>
    intro w mg fa h YY KX G hmg
    have YT := PySem.W.km_tabs_of YY
    refine' Y.law_at KX G hmg ?d_is_number ?d_is_row ?d_lot_within ?d_is_size ?d_is_plain ?d_is_key ?d_is_page ?d_laid_over ?d_page_behind ?d_is_entry ?d_are_slots ?d_read_half ?d_read_back ?d_box ?d_take ?d_pick ?d_same ?d_key ?d_value ?d_row ?d_no_page ?d_over ?d_half ?d_read ?d_disk ?d_put ?d_safe ?d_cut ?d_book ?d_add ?d_heard ?d_filled ?d_spoilt ?d_halves ?d_none ?d_lots ?d_disks ?d_pages ?d_disk_refused ?d_law ?n01 ?n02 ?n12 ?m_Disk_put ?m_Disk_flush ?m_Disk_fall ?i_Disk ?gD ?D ?ER ?EK ?z1 ?z2 ?z_isinstance ?z_len ?z_tuple ?z_list ?z_int ?z_str ?z_bool ?z_all ?z_max ?z_min ?z_range ?z_sorted ?z_abs
    (case gD => k_is)
    (case d_is_number => walk_at "def")
    (case d_is_row => walk_at "def")
    (case d_lot_within => walk_at "def")
    (case d_is_size => walk_at "def")
    (case d_is_plain => walk_at "def")
    (case d_is_key => walk_at "def")
    (case d_is_page => walk_at "def")
    (case d_laid_over => walk_at "def")
    (case d_page_behind => walk_at "def")
    (case d_is_entry => walk_at "def")
    (case d_are_slots => walk_at "def")
    (case d_read_half => walk_at "def")
    (case d_read_back => walk_at "def")
    (case d_box => walk_at "def")
    (case d_take => walk_at "def")
    (case d_pick => walk_at "def")
    (case d_same => walk_at "def")
    (case d_key => walk_at "def")
    (case d_value => walk_at "def")
    (case d_row => walk_at "def")
    (case d_no_page => walk_at "def")
    (case d_over => walk_at "def")
    (case d_half => walk_at "def")
    (case d_read => walk_at "def")
    (case d_disk => walk_at "def")
    (case d_put => walk_at "def")
    (case d_safe => walk_at "def")
    (case d_cut => walk_at "def")
    (case d_book => walk_at "def")
    (case d_add => walk_at "def")
    (case d_heard => walk_at "def")
    (case d_filled => walk_at "def")
    (case d_spoilt => walk_at "def")
    (case d_halves => walk_at "def")
    (case d_none => walk_at "def")
    (case d_lots => walk_at "def")
    (case d_disks => walk_at "def")
    (case d_pages => (refine' Y.def_t ?a ?l ?c ?k ?lc ?v ?t ?n ?h; (case a => k_is); (case l => k_is); (case c => k_is); (case k => k_is); (case lc => k_is); (case v => exact rfl); (case t => walk_at "fact"); (case n => walk_at "fact"); (case h => exact YT _ (by decide))))
    (case d_disk_refused => (refine' Y.def_t ?a ?l ?c ?k ?lc ?v ?t ?n ?h; (case a => k_is); (case l => k_is); (case c => k_is); (case k => k_is); (case lc => k_is); (case v => exact rfl); (case t => walk_at "fact"); (case n => walk_at "fact"); (case h => exact YT _ (by decide))))
    (case d_law => (refine' Y.def_t ?a ?l ?c ?k ?lc ?v ?t ?n ?h; (case a => k_is); (case l => k_is); (case c => k_is); (case k => k_is); (case lc => k_is); (case v => exact rfl); (case t => walk_at "fact"); (case n => walk_at "fact"); (case h => exact YT _ (by decide))))
    (case n01 => decide)
    (case n02 => decide)
    (case n12 => decide)
    (case m_Disk_put => walk_at "meth")
    (case m_Disk_flush => walk_at "meth")
    (case m_Disk_fall => walk_at "meth")
    (case i_Disk => walk_at "init")
    (case D => (refine' ⟨?i, ?n0, ?n1, ?n2⟩; (case i => walk_at "ins"); (case n0 => (refine Y.noattr_of ?_; k_is)); (case n1 => (refine Y.noattr_of ?_; k_is)); (case n2 => (refine Y.noattr_of ?_; k_is))))
    (case ER => (refine' ⟨_, _, _, _, _, _, _, _, _, _, _, _, _, _, _, _, _, _, _, _, ?eD, ?eP, ?eN, ?eS, ?eL⟩; (case eD => walk_at "err"); (case eP => walk_at "err"); (case eN => walk_at "err"); (case eS => walk_at "err"); (case eL => walk_at "err")))
    (case EK => (refine' Y.exk_mk KX G ?e ?xNN ?xSN ?xSS ?xLN ?xLS ?xLL ?xPN ?xPS ?xPL ?xPP ?xDN ?xDS ?xDL ?xDP ?xDD; (case e => k_is); (case xNN => walk_at "fact"); (case xSN => walk_at "fact"); (case xSS => walk_at "fact"); (case xLN => walk_at "fact"); (case xLS => walk_at "fact"); (case xLL => walk_at "fact"); (case xPN => walk_at "fact"); (case xPS => walk_at "fact"); (case xPL => walk_at "fact"); (case xPP => walk_at "fact"); (case xDN => walk_at "fact"); (case xDS => walk_at "fact"); (case xDL => walk_at "fact"); (case xDP => walk_at "fact"); (case xDD => walk_at "fact")))
    (case z1 => k_is)
    (case z2 => k_is)
    (case z_isinstance => k_is)
    (case z_len => k_is)
    (case z_tuple => k_is)
    (case z_list => k_is)
    (case z_int => k_is)
    (case z_str => k_is)
    (case z_bool => k_is)
    (case z_all => k_is)
    (case z_max => k_is)
    (case z_min => k_is)
    (case z_range => k_is)
    (case z_sorted => k_is)
    (case z_abs => k_is)

