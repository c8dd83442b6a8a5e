import PyProof.Rows.All
import Wide.All
import OpenK.AllK
import Wide.FinOn
import HandS.ForMost
import HandS.ForExc
import HandS.TupAny
import HandS.TupLe
import HandS.TupMul
import HandS.Deep
import HandS.IsInst
import HandS.Style
import KE.KDictKeyed
import KE.GoesEnum
import HandS.Zip
import PyProof.StrOps2
import KE.KRevSl
import KE.SortCalls
import PyProof.TupleOfSeq
import HandS.ExcValue
import HandS.ExcOwn
import HandS.Lambda
import HandS.ExcIs
import HandS.EndTab
import KE.DataFind
import HandS.Text
import HandS.StrMore
import HandS.Codes
import HandS.More
import HandS.WrittenGet
import KE.GoesZip
import KE.GoesMore
import KE.GoesComp
import HandS.SetFor
import HandS.Strs
import HandS.Nested
import PySem.Challenge.RW_brokenparts_k09_lists_anywhere
set_option Elab.async false
set_option linter.all false
set_option maxRecDepth 100000
/-! The data layer: each expression and statement has a meaning, a plain function of an environment of data. -/
namespace DL
open PySem L2

/-! data in the heap: lists are tracked ones (or the script) -/
mutual
inductive Fit (K : PySem.W.Frag) (H : Hp) : V → PyData → Prop
  | non : Fit K H .non .none
  | bl (b : Bool) : Fit K H (.bl b) (.bool b)
  | int (i : Int) : Fit K H (.int i) (.int i)
  | str (x : Str) : Fit K H (.str x) (.str x)
  | lst {a : Addr} {xs : List V} {ds : List PyData} : Rd H a (.lst xs) → FitAll K H xs ds → Fit K H (.ref a) (.list ds)
  | tup {a : Addr} {xs : List V} {ds : List PyData} : SqT K H a xs → FitAll K H xs ds → Fit K H (.ref a) (.tuple ds)
  | ro {a : Addr} {xs : List V} {ds : List PyData} : SqL K H a xs → FitAll K H xs ds → Fit K H (.ref a) (.dict (ds.map fun d => (d, d)))
inductive FitAll (K : PySem.W.Frag) (H : Hp) : List V → List PyData → Prop
  | nil : FitAll K H [] []
  | cons {v : V} {vs : List V} {d : PyData} {ds : List PyData} : Fit K H v d → FitAll K H vs ds → FitAll K H (v :: vs) (d :: ds)
end
mutual
theorem Fit.up {K : PySem.W.Frag} {H : Hp} : ∀ {v : V} {d : PyData}, d.canLay0 = true → Fit K H v d → L2.Dp K H v d
  | _, _, _, .non => .non
  | _, _, _, .bl b => .bl b
  | _, _, _, .int i => .int i
  | _, _, _, .str x => .str x
  | _, _, c, .lst h hs => .lst (.inl h) (FitAll.up (by simpa [PyData.canLay0] using c) hs)
  | _, _, c, .tup h hs => .tup h (FitAll.up (by simpa [PyData.canLay0] using c) hs)
  | _, _, c, .ro _ _ => by simp [PyData.canLay0] at c
theorem FitAll.up {K : PySem.W.Frag} {H : Hp} : ∀ {vs : List V} {ds : List PyData}, PyData.canLayAll0 ds = true → FitAll K H vs ds → L2.DpAll K H vs ds
  | _, _, _, .nil => .nil
  | _, _, c, .cons h t => by
    simp only [PyData.canLayAll0, Bool.and_eq_true] at c
    exact .cons (Fit.up c.1 h) (FitAll.up c.2 t)
end
theorem rd_mono {H H' : Hp} {a : Addr} {u : HO} (e : Same H H') (h : Rd H a u) : Rd H' a u := by
  rcases h with h | ⟨o, h⟩
  · exact .inl (e _ _ h)
  · exact .inr ⟨o, e _ _ h⟩
abbrev D := PyData
abbrev Cn := String
abbrev R (α : Type) := Option (Except Cn α)
def bnd {α β : Type} (x : R α) (f : α → R β) : R β := match x with
  | some (.ok a) => f a
  | some (.error c) => some (.error c)
  | none => none
def okO {α : Type} : Option α → R α
  | some a => some (.ok a)
  | none => none
@[simp] theorem bnd_ok {α β : Type} (a : α) (f : α → R β) : bnd (some (.ok a)) f = f a := rfl
@[simp] theorem bnd_er {α β : Type} (c : Cn) (f : α → R β) : bnd (some (.error c)) f = some (.error c) := rfl
@[simp] theorem bnd_no {α β : Type} (f : α → R β) : bnd none f = none := rfl
@[simp] theorem okO_some {α : Type} (a : α) : okO (some a) = some (.ok a) := rfl
@[simp] theorem okO_none {α : Type} : okO (none : Option α) = none := rfl

/-- what a slot holds: nothing known, data, a list of one's own that is changed, any value -/
inductive SV where
  | no
  | val (d : D)
  | own (ds : List D)
  | raw (v : V)
  | dic (kvs : List (List Int × D))
abbrev En := List SV

structure Fx where
  exc : Cn → Value
  bad : Addr → Prop
  mu : Addr → Prop
  sub : ∀ a, mu a → bad a
  inv : Hp → Prop
  mono : ∀ H H', Same H H' → inv H → inv H'
  lst : ∀ (H : Hp) (a : Addr) (xs ys : List V), H a = some (.lst xs) → inv H → inv (upd H a (.lst ys))

structure Ext (F : Fx) (H H' : Hp) : Prop where
  keep : ∀ a o, ¬ F.mu a → H a = some o → H' a = some o
  live : ∀ a, H a ≠ none → H' a ≠ none
  inv : F.inv H → F.inv H'
theorem Ext.refl (F : Fx) (H : Hp) : Ext F H H := ⟨fun _ _ _ h => h, fun _ h => h, fun h => h⟩
theorem Ext.trans {F : Fx} {H H1 H2 : Hp} (a : Ext F H H1) (b : Ext F H1 H2) : Ext F H H2 :=
  ⟨fun c o n h => b.keep c o n (a.keep c o n h), fun c h => b.live c (a.live c h), fun h => b.inv (a.inv h)⟩
theorem Ext.of {F : Fx} {H H' : Hp} (e : Same H H') : Ext F H H' := by
  refine ⟨fun a o _ h => e a o h, fun a h => ?_, F.mono H H' e⟩
  cases q : H a with
  | none => exact absurd q h
  | some o => rw [e a o q]; exact fun z => nomatch z
theorem same_new {H : Hp} {p : Addr} (h : H p = none) (o : HO) : Same H (upd H p o) := fun b u q => by rw [upd_ne (ne_of_none q h)]; exact q
theorem ext_new {F : Fx} {H : Hp} {p : Addr} (h : H p = none) (o : HO) : Ext F H (upd H p o) := .of (same_new h o)

open Classical in
noncomputable def hp (F : Fx) (O : List (Option Addr)) (fr : Bool) (H : Hp) : Hp := fun a => if F.bad a ∨ (fr = true ∧ some a ∈ O) then none else H a
section
variable {F : Fx} {O O' : List (Option Addr)} {fr : Bool} {H H' : Hp} {a : Addr} {o : HO}
theorem hp_some : hp F O fr H a = some o ↔ ¬ (F.bad a ∨ (fr = true ∧ some a ∈ O)) ∧ H a = some o := by
  unfold hp
  by_cases h : F.bad a ∨ (fr = true ∧ some a ∈ O)
  · rw [if_pos h]; exact ⟨fun z => (nomatch z), fun z => absurd h z.1⟩
  · rw [if_neg h]; exact ⟨fun z => ⟨h, z⟩, fun z => z.2⟩
theorem hp_ext (e : Ext F H H') : Same (hp F O fr H) (hp F O fr H') := fun a o h => by
  obtain ⟨n, q⟩ := hp_some.mp h
  exact hp_some.mpr ⟨n, e.keep a o (fun m => n (.inl (F.sub a m))) q⟩
theorem hp_le : Same (hp F O fr H) H := fun a o h => (hp_some.mp h).2
theorem hp_low : Same (hp F O true H) (hp F O fr H) := fun a o h => by
  obtain ⟨n, q⟩ := hp_some.mp h
  exact hp_some.mpr ⟨fun z => n (z.elim .inl fun y => .inr ⟨rfl, y.2⟩), q⟩
theorem hp_less (hs : ∀ a, some a ∈ O' → some a ∈ O) : Same (hp F O fr H) (hp F O' fr H) := fun a o h => by
  obtain ⟨n, q⟩ := hp_some.mp h
  exact hp_some.mpr ⟨fun z => n (z.elim .inl fun y => .inr ⟨y.1, hs a y.2⟩), q⟩
end
theorem sqt_mono {K : PySem.W.Frag} {H H' : Hp} {a : Addr} {xs : List V} (e : Same H H') (h : SqT K H a xs) : SqT K H' a xs := by
  rcases h with (h | ⟨o, h⟩) | h
  · exact .inl (.inl (e _ _ h))
  · exact .inl (.inr ⟨o, e _ _ h⟩)
  · exact .inr h
mutual
theorem dp_mono {K : PySem.W.Frag} {H H' : Hp} (e : Same H H') : ∀ {v : V} {d : PyData}, Fit K H v d → Fit K H' v d
  | _, _, .non => .non
  | _, _, .bl b => .bl b
  | _, _, .int i => .int i
  | _, _, .str x => .str x
  | _, _, .lst h hs => .lst (rd_mono e h) (dps_mono e hs)
  | _, _, .tup h hs => .tup (sqt_mono e h) (dps_mono e hs)
  | _, _, .ro h hs => .ro (e.seq h) (dps_mono e hs)
theorem dps_mono {K : PySem.W.Frag} {H H' : Hp} (e : Same H H') : ∀ {vs : List V} {ds : List PyData}, FitAll K H vs ds → FitAll K H' vs ds
  | _, _, .nil => .nil
  | _, _, .cons h t => .cons (dp_mono e h) (dps_mono e t)
end
theorem FitAll.len {K : PySem.W.Frag} {H : Hp} : ∀ {vs : List V} {ds : List PyData}, FitAll K H vs ds → vs.length = ds.length
  | _, _, .nil => rfl
  | _, _, .cons _ t => congrArg (· + 1) (FitAll.len t)
theorem FitAll.app {K : PySem.W.Frag} {H : Hp} : ∀ {vs ws : List V} {ds es : List PyData}, FitAll K H vs ds → FitAll K H ws es → FitAll K H (vs ++ ws) (ds ++ es)
  | _, _, _, _, .nil, s => s
  | _, _, _, _, .cons h t, s => .cons h (FitAll.app t s)
theorem FitAll.get {K : PySem.W.Frag} {H : Hp} : ∀ {vs : List V} {ds : List PyData} {i : Nat} {d : PyData}, FitAll K H vs ds → ds[i]? = some d → ∃ v, vs[i]? = some v ∧ Fit K H v d
  | _, _, _, _, .nil, e => by simp at e
  | _, _, 0, _, .cons h _, e => by simp at e; subst e; exact ⟨_, rfl, h⟩
  | _, _, i + 1, d, .cons _ t, e => by
    obtain ⟨v, h1, h2⟩ := FitAll.get (i := i) (d := d) t (by simpa using e)
    exact ⟨v, by simpa using h1, h2⟩
theorem FitAll.take {K : PySem.W.Frag} {H : Hp} : ∀ {vs : List V} {ds : List PyData} (n : Nat), FitAll K H vs ds → FitAll K H (vs.take n) (ds.take n)
  | _, _, 0, _ => by simpa using FitAll.nil
  | _, _, _ + 1, .nil => .nil
  | _, _, n + 1, .cons h t => .cons h (FitAll.take n t)
theorem FitAll.drop {K : PySem.W.Frag} {H : Hp} : ∀ {vs : List V} {ds : List PyData} (n : Nat), FitAll K H vs ds → FitAll K H (vs.drop n) (ds.drop n)
  | _, _, 0, h => by simpa using h
  | _, _, _ + 1, .nil => .nil
  | _, _, n + 1, .cons _ t => FitAll.drop n t
theorem FitAll.rev {K : PySem.W.Frag} {H : Hp} : ∀ {vs : List V} {ds : List PyData}, FitAll K H vs ds → FitAll K H vs.reverse ds.reverse
  | _, _, .nil => .nil
  | _, _, .cons h t => by rw [List.reverse_cons, List.reverse_cons]; exact FitAll.app (FitAll.rev t) (.cons h .nil)
theorem FitAll.ints {K : PySem.W.Frag} {H : Hp} : ∀ (ns : List Int), FitAll K H (ns.map V.int) (ns.map PyData.int)
  | [] => .nil
  | n :: r => .cons (.int n) (FitAll.ints r)

/-- a dict whose keys are tuples of ints (their hash is no world's matter) -/
def DicF (a : Addr) (es : List DictEntry) : HO := .ext fun h => (a == sysModules) = false ∧ ∃ o ep, h.get? a = some o ∧ o.ExactDict ∧ o.data = .dict es.toArray ep
structure DicK (K : PySem.W.Frag) (H : Hp) (es : List DictEntry) (xs : List (NestedKey × Addr × Value)) (vs : List V) : Prop where
  ent : ∀ P w, es = xs.map (entryOfKey (nestedKind P w))
  key : ∀ x ∈ xs, ∃ is : List Int, x.1 = .tup (is.map .num) ∧ SqT K H x.2.1 (is.map V.int)
  nd : (xs.map (·.1)).Nodup
  val : Vals vs (xs.map (·.2.2))
def DicFit (K : PySem.W.Frag) (H : Hp) (v : V) (kvs : List (List Int × D)) : Prop := ∃ a es xs vs, v = .ref a ∧ H a = some (DicF a es) ∧ DicK K H es xs vs ∧ xs.map (·.1) = kvs.map (fun p => NestedKey.tup (p.1.map .num)) ∧ FitAll K H vs (kvs.map (·.2))
theorem dic_mono {K : PySem.W.Frag} {H H' : Hp} (e : Same H H') {v : V} {kvs : List (List Int × D)} (h : DicFit K H v kvs) : DicFit K H' v kvs := by
  obtain ⟨a, es, xs, vs, rfl, h1, h2, h4, h3⟩ := h
  refine ⟨a, es, xs, vs, rfl, e _ _ h1, ⟨h2.ent, fun x hx => ?_, h2.nd, h2.val⟩, h4, dps_mono e h3⟩
  obtain ⟨is, q1, q2⟩ := h2.key x hx
  exact ⟨is, q1, sqt_mono e q2⟩
structure Holds (K : PySem.W.Frag) (F : Fx) (H0 Z : Hp) (O : List (Option Addr)) (σ : L2.St) (H : Hp) (ρ : En) : Prop where
  len : σ.length = ρ.length
  olen : O.length = ρ.length
  val : ∀ (i : Nat) d, ρ[i]? = some (.val d) → ∃ v, σ[i]? = some (some v) ∧ Fit K (hp F O true H) v d
  own : ∀ (i : Nat) ds, ρ[i]? = some (.own ds) → ∃ a vs, O[i]? = some (some a) ∧ σ[i]? = some (some (.ref a)) ∧ H a = some (.lst vs) ∧ FitAll K (hp F O true H) vs ds
  raw : ∀ (i : Nat) v, ρ[i]? = some (.raw v) → σ[i]? = some (some v)
  dic : ∀ (i : Nat) kvs, ρ[i]? = some (.dic kvs) → ∃ v, σ[i]? = some (some v) ∧ DicFit K (hp F O true H) v kvs
  inj : ∀ (i j : Nat) a, O[i]? = some (some a) → O[j]? = some (some a) → i = j
  new : ∀ a, some a ∈ O → H0 a = none ∧ H a ≠ none ∧ ¬ F.bad a
  bex : ∀ a, F.bad a → H a ≠ none
  ext : Ext F H0 H
  frz : Same Z (hp F O true H)
  oin : ∀ (i : Nat) a, O[i]? = some (some a) → ∃ ds, ρ[i]? = some (.own ds)
  ok : F.inv H
section
variable {K : PySem.W.Frag} {F : Fx} {H0 Z : Hp} {O : List (Option Addr)} {σ : L2.St} {H H' : Hp} {ρ : En} {fr : Bool}
theorem Holds.go (h : Holds K F H0 Z O σ H ρ) (e : Ext F H H') : Holds K F H0 Z O σ H' ρ where
  len := h.len
  olen := h.olen
  val := fun i d q => let ⟨v, a, b⟩ := h.val i d q; ⟨v, a, dp_mono (hp_ext e) b⟩
  own := fun i ds q => let ⟨a, vs, x, y, z, w⟩ := h.own i ds q
    ⟨a, vs, x, y, e.keep a _ (fun m => (h.new a (List.mem_of_getElem? x)).2.2 (F.sub a m)) z, dps_mono (hp_ext e) w⟩
  raw := h.raw
  dic := fun i d q => let ⟨v, a, b⟩ := h.dic i d q; ⟨v, a, dic_mono (hp_ext e) b⟩
  inj := h.inj
  new := fun a q => ⟨(h.new a q).1, e.live a (h.new a q).2.1, (h.new a q).2.2⟩
  bex := fun a q => e.live a (h.bex a q)
  ext := h.ext.trans e
  frz := h.frz.trans (hp_ext e)
  oin := h.oin
  ok := e.inv h.ok
theorem Holds.fresh (h : Holds K F H0 Z O σ H ρ) {p : Addr} (n : H p = none) : ¬ (F.bad p ∨ (fr = true ∧ some p ∈ O)) := fun z => by
  rcases z with z | ⟨_, z⟩
  · exact h.bex p z n
  · exact (h.new p z).2.1 n
theorem Holds.zed (h : Holds K F H0 Z O σ H ρ) : Holds K F H0 (hp F O true H) O σ H ρ := ⟨h.len, h.olen, h.val, h.own, h.raw, h.dic, h.inj, h.new, h.bex, h.ext, Same.refl _, h.oin, h.ok⟩
theorem Holds.zof {Z' : Hp} (h : Holds K F H0 Z' O σ H ρ) (s : Same Z Z') : Holds K F H0 Z O σ H ρ := ⟨h.len, h.olen, h.val, h.own, h.raw, h.dic, h.inj, h.new, h.bex, h.ext, s.trans h.frz, h.oin, h.ok⟩
theorem mem_set_none {O : List (Option Addr)} {i : Nat} {a : Addr} (h : some a ∈ O.set i none) : some a ∈ O := by
  rcases List.mem_or_eq_of_mem_set h with h | h
  · exact h
  · cases h
theorem get_set {α : Type} {l : List α} {i j : Nat} {x y : α} (h : (l.set i x)[j]? = some y) : (i = j ∧ y = x) ∨ (i ≠ j ∧ l[j]? = some y) := by
  by_cases e : i = j
  · subst e
    by_cases hl : i < l.length
    · rw [List.getElem?_set_self hl] at h; exact .inl ⟨rfl, (Option.some.inj h).symm⟩
    · rw [List.getElem?_eq_none (by simpa using hl)] at h; cases h
  · rw [List.getElem?_set_ne e] at h; exact .inr ⟨e, h⟩
theorem lt_of_set {α : Type} {l : List α} {i : Nat} {x y : α} (h : (l.set i x)[i]? = some y) : i < l.length := by
  by_cases hl : i < l.length
  · exact hl
  · rw [List.getElem?_eq_none (by simpa using hl)] at h; cases h
theorem Holds.set (h : Holds K F H0 Z O σ H ρ) {v : V} {d : D} (i : Nat) (hv : Fit K (hp F O true H) v d) : Holds K F H0 Z (O.set i none) (σ.set i (some v)) H (ρ.set i (.val d)) where
  len := by simp [h.len]
  olen := by simp [h.olen]
  val := fun j e q => by
    rcases get_set q with ⟨rfl, z⟩ | ⟨n, z⟩
    · cases z
      have hl := lt_of_set q
      exact ⟨v, List.getElem?_set_self (by rw [h.len]; exact hl), dp_mono (hp_less fun a => mem_set_none) hv⟩
    · obtain ⟨w, x, y⟩ := h.val j e z
      exact ⟨w, by rw [List.getElem?_set_ne n]; exact x, dp_mono (hp_less fun a => mem_set_none) y⟩
  own := fun j e q => by
    rcases get_set q with ⟨rfl, z⟩ | ⟨n, z⟩
    · cases z
    · obtain ⟨a, vs, x, y, w, u⟩ := h.own j e z
      exact ⟨a, vs, by rw [List.getElem?_set_ne n]; exact x, by rw [List.getElem?_set_ne n]; exact y, w, dps_mono (hp_less fun a => mem_set_none) u⟩
  raw := fun j e q => by
    rcases get_set q with ⟨rfl, z⟩ | ⟨n, z⟩
    · cases z
    · rw [List.getElem?_set_ne n]; exact h.raw j e z
  dic := fun j e q => by
    rcases get_set q with ⟨rfl, z⟩ | ⟨n, z⟩
    · cases z
    · obtain ⟨w, x, y⟩ := h.dic j e z
      exact ⟨w, by rw [List.getElem?_set_ne n]; exact x, dic_mono (hp_less fun a => mem_set_none) y⟩
  inj := fun j k a x y => by
    rcases get_set x with ⟨_, z⟩ | ⟨_, z⟩
    · cases z
    · rcases get_set y with ⟨_, w⟩ | ⟨_, w⟩
      · cases w
      · exact h.inj j k a z w
  new := fun a q => h.new a (mem_set_none q)
  bex := h.bex
  ext := h.ext
  frz := h.frz.trans (hp_less fun a => mem_set_none)
  ok := h.ok
  oin := fun j a q => by
    rcases get_set q with ⟨_, z⟩ | ⟨n, z⟩
    · cases z
    · obtain ⟨ds, w⟩ := h.oin j a z
      exact ⟨ds, by rw [List.getElem?_set_ne n]; exact w⟩
def noOwn (ρ : En) (i : Nat) : Bool := match ρ[i]? with
  | some (.own _) => false
  | _ => true
/-- a slot forgotten -/
theorem Holds.drop (h : Holds K F H0 Z O σ H ρ) (i : Nat) (hn : noOwn ρ i = true) : Holds K F H0 Z O (σ.set i none) H (ρ.set i .no) where
  len := by simp [h.len]
  olen := by simp [h.olen]
  val := fun j e q => by
    rcases get_set q with ⟨rfl, z⟩ | ⟨n, z⟩
    · cases z
    · rw [List.getElem?_set_ne n]; exact h.val j e z
  own := fun j e q => by
    rcases get_set q with ⟨rfl, z⟩ | ⟨n, z⟩
    · cases z
    · rw [List.getElem?_set_ne n]; exact h.own j e z
  raw := fun j e q => by
    rcases get_set q with ⟨rfl, z⟩ | ⟨n, z⟩
    · cases z
    · rw [List.getElem?_set_ne n]; exact h.raw j e z
  dic := fun j e q => by
    rcases get_set q with ⟨rfl, z⟩ | ⟨n, z⟩
    · cases z
    · rw [List.getElem?_set_ne n]; exact h.dic j e z
  inj := h.inj
  new := h.new
  bex := h.bex
  ext := h.ext
  frz := h.frz
  ok := h.ok
  oin := fun j a q => by
    obtain ⟨ds, w⟩ := h.oin j a q
    have n : i ≠ j := fun e => by
      subst e
      unfold noOwn at hn
      rw [w] at hn
      cases hn
    exact ⟨ds, by rw [List.getElem?_set_ne n]; exact w⟩
def wipeR (ρ : En) : List Nat → En
  | [] => ρ
  | v :: vs => (wipeR ρ vs).set v .no
theorem noOwn_wipe {ρ : En} {i : Nat} (h : noOwn ρ i = true) : ∀ vs : List Nat, noOwn (wipeR ρ vs) i = true
  | [] => h
  | v :: vs => by
    have q := noOwn_wipe h vs
    unfold noOwn at q ⊢
    unfold wipeR
    by_cases e : v = i
    · subst e
      by_cases hl : v < (wipeR ρ vs).length
      · rw [List.getElem?_set_self hl]
      · rw [List.getElem?_eq_none (by simpa using hl)]
    · rw [List.getElem?_set_ne e]; exact q
theorem Holds.wipe (h : Holds K F H0 Z O σ H ρ) : ∀ vs : List Nat, vs.all (noOwn ρ) = true → Holds K F H0 Z O (wipe σ vs) H (wipeR ρ vs)
  | [], _ => h
  | v :: vs, a => by
    rw [List.all_cons, Bool.and_eq_true] at a
    exact (h.wipe vs a.2).drop v (noOwn_wipe a.1 vs)
/-- a list of one's own, new, comes to a slot; what is known ahead of it (at H) does not speak of it -/
theorem Holds.setOwn {G : Hp} (h : Holds K F H0 Z O σ G ρ) (e : Ext F G H) {a : Addr} {vs : List V} {ds : List D} (i : Nat) (n : G a = none) (ha : H a = some (.lst vs)) (hv : FitAll K (hp F (some a :: O) true H) vs ds) :
    Holds K F H0 Z (O.set i (some a)) (σ.set i (some (.ref a))) H (ρ.set i (.own ds)) := by
  have n0 : H0 a = none := by
    cases q : H0 a with
    | none => rfl
    | some o =>
      exact absurd n (h.ext.live a (by rw [q]; exact fun z => nomatch z))
  have nb : ¬ F.bad a := fun z => h.bex a z n
  have nO : some a ∉ O := fun z => (h.new a z).2.1 n
  have mem : ∀ b, some b ∈ O.set i (some a) → some b ∈ O ∨ b = a := fun b z => by
    rcases List.mem_or_eq_of_mem_set z with z | z
    · exact .inl z
    · cases z; exact .inr rfl
  have up : Same (hp F O true G) (hp F (O.set i (some a)) true H) := fun b o q => by
    obtain ⟨x, y⟩ := hp_some.mp q
    refine hp_some.mpr ⟨fun z => ?_, e.keep b o (fun m => x (.inl (F.sub b m))) y⟩
    rcases z with z | ⟨_, z⟩
    · exact x (.inl z)
    · rcases mem b z with z | z
      · exact x (.inr ⟨rfl, z⟩)
      · subst z; rw [n] at y; cases y
  have up2 : Same (hp F (some a :: O) true H) (hp F (O.set i (some a)) true H) := hp_less fun b z => by
    rcases mem b z with z | z
    · exact List.mem_cons_of_mem _ z
    · subst z; exact List.mem_cons_self
  refine ⟨by simp [h.len], by simp [h.olen], fun j d q => ?_, fun j d q => ?_, fun j d q => ?_, fun j d q => ?_, fun j k b x y => ?_, fun b q => ?_, fun b q => e.live b (h.bex b q), h.ext.trans e, h.frz.trans up, fun j b q => ?_, e.inv h.ok⟩
  · rcases get_set q with ⟨rfl, z⟩ | ⟨n, z⟩
    · cases z
    · obtain ⟨w, x, y⟩ := h.val j d z
      exact ⟨w, by rw [List.getElem?_set_ne n]; exact x, dp_mono up y⟩
  · rcases get_set q with ⟨rfl, z⟩ | ⟨n, z⟩
    · cases z
      have hl := lt_of_set q
      exact ⟨a, vs, List.getElem?_set_self (by rw [h.olen]; exact hl), List.getElem?_set_self (by rw [h.len]; exact hl), ha, dps_mono up2 hv⟩
    · obtain ⟨b, ws, x, y, w, u⟩ := h.own j d z
      exact ⟨b, ws, by rw [List.getElem?_set_ne n]; exact x, by rw [List.getElem?_set_ne n]; exact y, e.keep b _ (fun m => (h.new b (List.mem_of_getElem? x)).2.2 (F.sub b m)) w, dps_mono up u⟩
  · rcases get_set q with ⟨rfl, z⟩ | ⟨n, z⟩
    · cases z
    · rw [List.getElem?_set_ne n]; exact h.raw j d z
  · rcases get_set q with ⟨rfl, z⟩ | ⟨n, z⟩
    · cases z
    · obtain ⟨w, x, y⟩ := h.dic j d z
      exact ⟨w, by rw [List.getElem?_set_ne n]; exact x, dic_mono up y⟩
  · rcases get_set x with ⟨i1, z⟩ | ⟨n1, z⟩
    · rcases get_set y with ⟨i2, w⟩ | ⟨n2, w⟩
      · exact i1.symm.trans i2
      · cases z; exact absurd (List.mem_of_getElem? w) nO
    · rcases get_set y with ⟨i2, w⟩ | ⟨n2, w⟩
      · cases w; exact absurd (List.mem_of_getElem? z) nO
      · exact h.inj j k b z w
  · rcases mem b q with z | z
    · exact ⟨(h.new b z).1, e.live b (h.new b z).2.1, (h.new b z).2.2⟩
    · subst z; exact ⟨n0, (by rw [ha]; exact fun z => nomatch z), nb⟩
  · rcases get_set q with ⟨i1, z⟩ | ⟨n1, z⟩
    · subst i1
      have hl := lt_of_set q
      exact ⟨ds, List.getElem?_set_self (by rw [← h.olen]; exact hl)⟩
    · obtain ⟨es, w⟩ := h.oin j b z
      exact ⟨es, by rw [List.getElem?_set_ne n1]; exact w⟩
/-- an own list is changed in place -/
theorem Holds.mut (h : Holds K F H0 Z O σ H ρ) {a : Addr} {vs ws : List V} {ds es : List D} {i : Nat} (hi : O[i]? = some (some a)) (hr : ρ[i]? = some (.own ds)) (ha : H a = some (.lst vs)) (hv : FitAll K (hp F O true H) ws es) : Holds K F H0 Z O σ (upd H a (.lst ws)) (ρ.set i (.own es)) := by
  have mo := List.mem_of_getElem? hi
  have up : Same (hp F O true H) (hp F O true (upd H a (.lst ws))) := fun b o q => by
    obtain ⟨x, y⟩ := hp_some.mp q
    have ne : b ≠ a := fun z => x (.inr ⟨rfl, z ▸ mo⟩)
    exact hp_some.mpr ⟨x, by rw [upd_ne ne]; exact y⟩
  have live : ∀ b, H b ≠ none → upd H a (.lst ws) b ≠ none := fun b q => by
    by_cases e : b = a
    · subst e; rw [upd_same]; exact fun z => nomatch z
    · rw [upd_ne e]; exact q
  refine ⟨by simp [h.len], by simp [h.olen], fun j d q => ?_, fun j d q => ?_, fun j d q => ?_, fun j d q => ?_, h.inj, fun b q => ⟨(h.new b q).1, live b (h.new b q).2.1, (h.new b q).2.2⟩, fun b q => live b (h.bex b q), ?_, h.frz.trans up, fun j b q => ?_, F.lst H a vs ws ha h.ok⟩
  · rcases get_set q with ⟨rfl, z⟩ | ⟨n, z⟩
    · cases z
    · obtain ⟨w, x, y⟩ := h.val j d z
      exact ⟨w, x, dp_mono up y⟩
  · rcases get_set q with ⟨rfl, z⟩ | ⟨n, z⟩
    · cases z
      obtain ⟨b, us, x, y, w, u⟩ := h.own i ds hr
      rw [hi] at x
      cases x
      exact ⟨a, ws, hi, y, upd_same, dps_mono up hv⟩
    · obtain ⟨b, us, x, y, w, u⟩ := h.own j d z
      have ne : b ≠ a := fun e => n (h.inj i j a hi (e ▸ x))
      exact ⟨b, us, x, y, by rw [upd_ne ne]; exact w, dps_mono up u⟩
  · rcases get_set q with ⟨rfl, z⟩ | ⟨n, z⟩
    · cases z
    · exact h.raw j d z
  · rcases get_set q with ⟨rfl, z⟩ | ⟨n, z⟩
    · cases z
    · obtain ⟨w, x, y⟩ := h.dic j d z
      exact ⟨w, x, dic_mono up y⟩
  · refine ⟨fun b o m q => ?_, fun b q => live b (h.ext.live b q), fun q => F.lst H a vs ws ha (h.ext.inv q)⟩
    have ne : b ≠ a := fun z => by subst z; rw [(h.new b mo).1] at q; cases q
    rw [upd_ne ne]; exact h.ext.keep b o m q
  · obtain ⟨us, w⟩ := h.oin j b q
    by_cases e : i = j
    · subst e
      exact ⟨es, List.getElem?_set_self (by rw [← h.olen]; exact (List.getElem?_eq_some_iff.mp q).1)⟩
    · exact ⟨us, by rw [List.getElem?_set_ne e]; exact w⟩
end
end DL
set_option Elab.async false
set_option linter.all false
set_option maxRecDepth 100000
namespace DL
open PySem L2
abbrev RE := En → R D
abbrev RT := En → R Bool
abbrev RA := En → R (List D)

/-- what is wanted where an exception leaves -/
def Err (F : Fx) (E : XK) (H : Hp) {β : Type} (o : Except Cn β) : Prop := ∀ c, o = .error c → ∀ H', Ext F H H' → E (F.exc c) none H'
theorem Err.go {F : Fx} {E : XK} {H H1 : Hp} {β : Type} {o : Except Cn β} (h : Err F E H o) (e : Ext F H H1) : Err F E H1 o := fun c q H' e' => h c q H' (e.trans e')
theorem Err.ok {F : Fx} {E : XK} {H : Hp} {β : Type} {d : β} : Err F E H (.ok d : Except Cn β) := fun _ q => nomatch q
theorem Err.to {F : Fx} {E : XK} {H : Hp} {β γ : Type} {c : Cn} (h : Err F E H (.error c : Except Cn β)) : Err F E H (.error c : Except Cn γ) := fun c' q => by cases q; exact h c rfl

structure SE (K : PySem.W.Frag) (F : Fx) (E : XK) (fr : Bool) (t : TE) (r : RE) : Prop where
  go : ∀ {H0 Z O σ H ρ o} {Q : VK}, Holds K F H0 Z O σ H ρ → r ρ = some o → Err F E H o → (∀ d v H', o = .ok d → Ext F H H' → Fit K (hp F O fr H') v d → Q v H') → t σ H Q
structure ST (K : PySem.W.Frag) (F : Fx) (E : XK) (t : TT) (r : RT) : Prop where
  go : ∀ {H0 Z O σ H ρ o} {Q : Bool → Hp → Prop}, Holds K F H0 Z O σ H ρ → r ρ = some o → Err F E H o → (∀ b H', o = .ok b → Ext F H H' → Q b H') → t σ H Q
structure SA (K : PySem.W.Frag) (F : Fx) (E : XK) (fr : Bool) (t : TA) (r : RA) : Prop where
  go : ∀ {H0 Z O σ H ρ o} {Q : List V → Hp → Prop}, Holds K F H0 Z O σ H ρ → r ρ = some o → Err F E H o → (∀ ds vs H', o = .ok ds → Ext F H H' → FitAll K (hp F O fr H') vs ds → Q vs H') → t σ H Q
structure DE (F : Fx) (E : XK) (X : Cx) (fr : Bool) (e : Expr) (t : TE) (r : RE) : Prop where
  run : PE X e t
  snd : SE X.K F E fr t r
structure DT (F : Fx) (E : XK) (X : Cx) (e : Expr) (t : TT) (r : RT) : Prop where
  run : PT X e t
  snd : ST X.K F E t r
structure DA (F : Fx) (E : XK) (X : Cx) (fr : Bool) (es : List Expr) (t : TA) (r : RA) : Prop where
  run : PA X es t
  snd : SA X.K F E fr t r

section
variable {K : PySem.W.Frag} {F : Fx} {E : XK} {fr : Bool}
theorem bnd_cases {α β : Type} {x : R α} {g : α → R β} {o : Except Cn β} (h : bnd x g = some o) : (∃ a, x = some (.ok a) ∧ g a = some o) ∨ (∃ c, x = some (.error c) ∧ o = .error c) := by
  cases x with
  | none => cases h
  | some y =>
    cases y with
    | ok a => exact .inl ⟨a, rfl, h⟩
    | error c => exact .inr ⟨c, rfl, (Option.some.inj h).symm⟩
theorem okO_eq {α : Type} {x : Option α} {o : Except Cn α} (h : okO x = some o) : ∃ a, x = some a ∧ o = .ok a := by
  cases x with
  | none => cases h
  | some a => exact ⟨a, rfl, (Option.some.inj h).symm⟩
/-- first an expression, then the rest -/
theorem SE.bnd {t : TE} {r : RE} (h : SE K F E fr t r) {H0 Z O σ H ρ} (hh : Holds K F H0 Z O σ H ρ) {β : Type} {g : D → R β} {o : Except Cn β} {Q : VK} (e : bnd (r ρ) g = some o) (er : Err F E H o)
    (k : ∀ d v H1, g d = some o → Ext F H H1 → Holds K F H0 Z O σ H1 ρ → Fit K (hp F O fr H1) v d → Q v H1) : t σ H Q := by
  rcases bnd_cases e with ⟨a, e1, e2⟩ | ⟨c, e1, e2⟩
  · exact h.go hh e1 Err.ok fun d v H' q x y => by cases q; exact k a v H' e2 x (hh.go x) y
  · subst e2; exact h.go hh e1 er.to fun d v H' q => nomatch q
theorem ST.bnd {t : TT} {r : RT} (h : ST K F E t r) {H0 Z O σ H ρ} (hh : Holds K F H0 Z O σ H ρ) {β : Type} {g : Bool → R β} {o : Except Cn β} {Q : Bool → Hp → Prop} (e : DL.bnd (r ρ) g = some o) (er : Err F E H o)
    (k : ∀ b H1, g b = some o → Ext F H H1 → Holds K F H0 Z O σ H1 ρ → Q b H1) : t σ H Q := by
  rcases bnd_cases e with ⟨a, e1, e2⟩ | ⟨c, e1, e2⟩
  · exact h.go hh e1 Err.ok fun d H' q x => by cases q; exact k a H' e2 x (hh.go x)
  · subst e2; exact h.go hh e1 er.to fun d H' q => nomatch q
theorem SA.bnd {t : TA} {r : RA} (h : SA K F E fr t r) {H0 Z O σ H ρ} (hh : Holds K F H0 Z O σ H ρ) {β : Type} {g : List D → R β} {o : Except Cn β} {Q : List V → Hp → Prop} (e : DL.bnd (r ρ) g = some o) (er : Err F E H o)
    (k : ∀ ds vs H1, g ds = some o → Ext F H H1 → Holds K F H0 Z O σ H1 ρ → FitAll K (hp F O fr H1) vs ds → Q vs H1) : t σ H Q := by
  rcases bnd_cases e with ⟨a, e1, e2⟩ | ⟨c, e1, e2⟩
  · exact h.go hh e1 Err.ok fun d v H' q x y => by cases q; exact k a v H' e2 x (hh.go x) y
  · subst e2; exact h.go hh e1 er.to fun d v H' q => nomatch q
end

/-! ### names, constants -/
def rVar (i : Nat) : RE := fun ρ => match ρ[i]? with
  | some (.val d) => some (.ok d)
  | _ => none
def rOwn (i : Nat) : RE := fun ρ => match ρ[i]? with
  | some (.own ds) => some (.ok (.list ds))
  | _ => none
def rC (d : D) : RE := fun _ => some (.ok d)
section
variable {F : Fx} {E : XK} {X : Cx} {fr : Bool}
theorem se_var {K : PySem.W.Frag} {i : Nat} : SE K F E fr (tVar i) (rVar i) := ⟨fun {H0 Z O σ H ρ o Q} hh e _ k => by
  unfold rVar at e
  split at e
  · rename_i d q
    cases e
    obtain ⟨v, x, y⟩ := hh.val i d q
    exact ⟨v, x, k d v H rfl (Ext.refl _ _) (dp_mono hp_low y)⟩
  · cases e⟩
theorem se_own {K : PySem.W.Frag} {i : Nat} : SE K F E false (tVar i) (rOwn i) := ⟨fun {H0 Z O σ H ρ o Q} hh e _ k => by
  unfold rOwn at e
  split at e
  · rename_i ds q
    cases e
    obtain ⟨a, vs, x, y, z, w⟩ := hh.own i ds q
    refine ⟨_, y, k _ _ H rfl (Ext.refl _ _) (.lst (Rd.of (hp_some.mpr ⟨fun n => ?_, z⟩)) (dps_mono hp_low w))⟩
    rcases n with n | ⟨n, _⟩
    · exact (hh.new a (List.mem_of_getElem? x)).2.2 n
    · cases n
  · cases e⟩
theorem de_var (i : Nat) {x : Str} {pos : Pos} (hN : X.N[i]? = some x := by rfl) (hv : Vis X.env.scope x := by first | exact Or.inl rfl | exact Or.inr (Or.inl rfl) | exact Or.inr (Or.inr rfl)) (hd : (x == ("__debug__" : Str)) = false := by decide)
    (hcd : (x == ("__classdict__" : Str)) = false := by decide) : DE F E X fr (.Name x pos) (tVar i) (rVar i) := ⟨pe_var hN hv hd hcd, se_var⟩
theorem de_own (i : Nat) {x : Str} {pos : Pos} (hN : X.N[i]? = some x := by rfl) (hv : Vis X.env.scope x := by first | exact Or.inl rfl | exact Or.inr (Or.inl rfl) | exact Or.inr (Or.inr rfl)) (hd : (x == ("__debug__" : Str)) = false := by decide)
    (hcd : (x == ("__classdict__" : Str)) = false := by decide) : DE F E X false (.Name x pos) (tVar i) (rOwn i) := ⟨pe_var hN hv hd hcd, se_own⟩
theorem se_c {K : PySem.W.Frag} {v : V} {d : D} (h : ∀ H, Fit K H v d) : SE K F E fr (tC v) (rC d) := ⟨fun {H0 Z O σ H ρ o Q} hh e _ k => by
  cases e
  exact k d v H rfl (Ext.refl _ _) (h _)⟩
theorem de_int {i : Int} {j : Nat} {pos : Pos} : DE F E X fr (.Constant (.int i) j pos) (tC (.int i)) (rC (.int i)) := ⟨pe_int, se_c fun _ => .int i⟩
theorem de_bl {b : Bool} {j : Nat} {pos : Pos} : DE F E X fr (.Constant (.bool b) j pos) (tC (.bl b)) (rC (.bool b)) := ⟨pe_bl, se_c fun _ => .bl b⟩
theorem de_non {j : Nat} {pos : Pos} : DE F E X fr (.Constant .none j pos) (tC .non) (rC .none) := ⟨pe_non, se_c fun _ => .non⟩
theorem de_str {x : Str} {j : Nat} {pos : Pos} : DE F E X fr (.Constant (.str x) j pos) (tC (.str x)) (rC (.str x)) := ⟨pe_str, se_c fun _ => .str x⟩
/-- a module's constant -/
theorem de_glob {x : Str} {v : V} {u : Value} {d : D} {pos : Pos} (hm : X.mg x = some u) (rv : RelV v u) (h : ∀ H, Fit X.K H v d) (hg : Gl X x := by rfl) (hd : (x == ("__debug__" : Str)) = false := by decide) : DE F E X fr (.Name x pos) (tC v) (rC d) := ⟨pe_glob hg hm rv hd, se_c h⟩

/-! ### operators -/
structure OpS (K : PySem.W.Frag) (r2 : R2) (g : D → D → Option D) : Prop where
  go : ∀ {F : Fx} {O : List (Option Addr)} {fr : Bool} {H : Hp} {x y : V} {a b d : D} {Q : VK}, (∀ p, H p = none → ¬ (F.bad p ∨ (fr = true ∧ some p ∈ O))) → Fit K (hp F O fr H) x a → Fit K (hp F O fr H) y b → g a b = some d →
    (∀ v H', Ext F H H' → Fit K (hp F O fr H') v d → Q v H') → r2 x y H Q
def rOp (g : D → D → Option D) (ra rb : RE) : RE := fun ρ => bnd (ra ρ) fun x => bnd (rb ρ) fun y => okO (g x y)
theorem se_op {K : PySem.W.Frag} {r2 : R2} {g : D → D → Option D} {ta tb : TE} {ra rb : RE} (hs : OpS K r2 g) (ha : SE K F E fr ta ra) (hb : SE K F E fr tb rb) : SE K F E fr (tOp r2 ta tb) (rOp g ra rb) :=
  ⟨fun {H0 Z O σ H ρ o Q} hh e er k => ha.bnd hh e er fun x v H1 e1 x1 hh1 d1 => hb.bnd hh1 e1 (er.go x1) fun y w H2 e2 x2 hh2 d2 => by
    obtain ⟨d, e3, rfl⟩ := okO_eq e2
    exact hs.go (fun p n => hh2.fresh n) (dp_mono (hp_ext x2) d1) d2 e3 fun u H3 x3 d3 => k d u H3 rfl ((x1.trans x2).trans x3) d3⟩
theorem de_op {a b : Expr} {op : Operator} {pos : Pos} {r2 : R2} {g : D → D → Option D} {ta tb : TE} {ra rb : RE} (hs : OpS X.K r2 g) (ho : OpR X (binaryOp op) r2) (ha : DE F E X fr a ta ra) (hb : DE F E X fr b tb rb) :
    DE F E X fr (.BinOp a op b pos) (tOp r2 ta tb) (rOp g ra rb) := ⟨pe_op ho ha.run hb.run, se_op hs ha.snd hb.snd⟩
theorem de_cmp {a b : Expr} {op : CmpOp} {pos : Pos} {r2 : R2} {g : D → D → Option D} {ta tb : TE} {ra rb : RE} (hs : OpS X.K r2 g) (ho : OpR X (compareOp op) r2) (ha : DE F E X fr a ta ra) (hb : DE F E X fr b tb rb)
    (hm : behindInMarks op b = false) : DE F E X fr (.Compare a [op] [b] pos) (tOp r2 ta tb) (rOp g ra rb) := ⟨pe_cmpR ho ha.run hb.run hm, se_op hs ha.snd hb.snd⟩
/-- a test of a value that is a truth -/
def rTst (r : RE) : RT := fun ρ => bnd (r ρ) fun d => match d with
  | .bool b => some (.ok b)
  | _ => none
theorem st_of {K : PySem.W.Frag} {t : TE} {r : RE} (h : SE K F E fr t r) : ST K F E (tTest t) (rTst r) := ⟨fun {H0 Z O σ H ρ o Q} hh e er k => h.bnd hh e er fun d v H1 e1 x1 hh1 d1 => by
  cases d with
  | bool b =>
    cases d1
    cases e1
    exact ⟨b, rfl, k b H1 rfl x1⟩
  | _ => cases e1⟩
theorem dt_cmp {a b : Expr} {op : CmpOp} {pos : Pos} {r2 : R2} {g : D → D → Option D} {ta tb : TE} {ra rb : RE} (hs : OpS X.K r2 g) (ho : OpR X (compareOp op) r2) (ha : DE F E X fr a ta ra) (hb : DE F E X fr b tb rb)
    (hm : behindInMarks op b = false) : DT F E X (.Compare a [op] [b] pos) (tTest (tOp r2 ta tb)) (rTst (rOp g ra rb)) := ⟨pt_cmpR ho ha.run hb.run hm, st_of (se_op hs ha.snd hb.snd)⟩
theorem dt_val {e : Expr} {t : TE} {r : RE} (h : DE F E X fr e t r) (he : ∀ whole, isTrue e X.env whole = (do let v ← whole; standAt e.pos; holding [v] (truthy v)) := by intro _; rfl) : DT F E X e (tB t) (rTst r) := ⟨pt_val h.run he, st_of h.snd⟩
def rNt (r : RT) : RT := fun ρ => bnd (r ρ) fun b => some (.ok (!b))
theorem dt_not {a : Expr} {pos : Pos} {t : TT} {r : RT} (h : DT F E X a t r) : DT F E X (.UnaryOp .Not a pos) (tNot t) (rNt r) := ⟨pt_not h.run, ⟨fun {H0 Z O σ H ρ o Q} hh e er k => h.snd.bnd hh e er fun b H1 e1 x1 _ => by
  cases e1
  exact k _ H1 rfl x1⟩⟩
structure DW (F : Fx) (E : XK) (X : Cx) (e : Expr) (t : TT) (r : RT) : Prop where
  run : PW X e t
  snd : ST X.K F E t r
theorem DW.dt {e : Expr} {t : TT} {r : RT} (h : DW F E X e t r) : DT F E X e t r := ⟨h.run.pt, h.snd⟩
def rAnd (ra rb : RT) : RT := fun ρ => bnd (ra ρ) fun b => if b = true then rb ρ else some (.ok false)
def rOr (ra rb : RT) : RT := fun ρ => bnd (ra ρ) fun b => if b = true then some (.ok true) else rb ρ
theorem dw_and1 {a : Expr} {pos : Pos} {t : TT} {r : RT} (h : DT F E X a t r) : DW F E X (.BoolOp .And [a] pos) t r := ⟨pw_and1 h.run, h.snd⟩
theorem dw_or1 {a : Expr} {pos : Pos} {t : TT} {r : RT} (h : DT F E X a t r) : DW F E X (.BoolOp .Or [a] pos) t r := ⟨pw_or1 h.run, h.snd⟩
theorem dw_and {a b : Expr} {rest : List Expr} {pos : Pos} {t u : TT} {r q : RT} (h : DT F E X a t r) (h2 : DW F E X (.BoolOp .And (b :: rest) pos) u q) : DW F E X (.BoolOp .And (a :: b :: rest) pos) (tAnd t u) (rAnd r q) :=
  ⟨pw_and h.run h2.run, ⟨fun {H0 Z O σ H ρ o Q} hh e er k => h.snd.bnd hh e er fun c H1 e1 x1 hh1 => by
    cases c with
    | true =>
      refine iteT ?_
      exact h2.snd.go hh1 e1 (er.go x1) fun b H' q x => k b H' q (x1.trans x)
    | false =>
      refine iteF ?_
      cases e1
      exact k false H1 rfl x1⟩⟩
theorem dw_or {a b : Expr} {rest : List Expr} {pos : Pos} {t u : TT} {r q : RT} (h : DT F E X a t r) (h2 : DW F E X (.BoolOp .Or (b :: rest) pos) u q) : DW F E X (.BoolOp .Or (a :: b :: rest) pos) (tOr t u) (rOr r q) :=
  ⟨pw_or h.run h2.run, ⟨fun {H0 Z O σ H ρ o Q} hh e er k => h.snd.bnd hh e er fun c H1 e1 x1 hh1 => by
    cases c with
    | true =>
      refine iteT ?_
      cases e1
      exact k true H1 rfl x1
    | false =>
      refine iteF ?_
      exact h2.snd.go hh1 e1 (er.go x1) fun b H' q x => k b H' q (x1.trans x)⟩⟩
/-! and, or, not as values -/
def rAndV (ra rb : RE) : RE := fun ρ => bnd (ra ρ) fun d => match d with
  | .bool true => rb ρ
  | .bool false => some (.ok (.bool false))
  | _ => none
def rOrV (ra rb : RE) : RE := fun ρ => bnd (ra ρ) fun d => match d with
  | .bool true => some (.ok (.bool true))
  | .bool false => rb ρ
  | _ => none
def rNotV (ra : RE) : RE := fun ρ => bnd (ra ρ) fun d => match d with
  | .bool b => some (.ok (.bool (!b)))
  | _ => none
theorem de_one {op : BoolOp} {a : Expr} {pos : Pos} {t : TE} {r : RE} (h : DE F E X fr a t r) : DE F E X fr (.BoolOp op [a] pos) t r := ⟨pe_one h.run, h.snd⟩
theorem de_and {a b : Expr} {rest : List Expr} {pos : Pos} {t u : TE} {r q : RE} {fs : Bool} (h : DE F E X fs a t r) (h2 : DE F E X fr (.BoolOp .And (b :: rest) pos) u q) : DE F E X fr (.BoolOp .And (a :: b :: rest) pos) (tAndV t u) (rAndV r q) :=
  ⟨pe_and h.run h2.run, ⟨fun {H0 Z O σ H ρ o Q} hh e er k => h.snd.bnd hh e er fun d v H1 e1 x1 hh1 d1 => by
    cases d with
    | bool c =>
      cases d1
      refine ⟨c, rfl, ?_⟩
      cases c with
      | true =>
        refine iteT ?_
        exact h2.snd.go hh1 e1 (er.go x1) fun d v H' q x => k d v H' q (x1.trans x)
      | false =>
        refine iteF ?_
        cases e1
        exact k _ _ H1 rfl x1 (.bl false)
    | _ => cases e1⟩⟩
theorem de_or {a b : Expr} {rest : List Expr} {pos : Pos} {t u : TE} {r q : RE} {fs : Bool} (h : DE F E X fs a t r) (h2 : DE F E X fr (.BoolOp .Or (b :: rest) pos) u q) : DE F E X fr (.BoolOp .Or (a :: b :: rest) pos) (tOrV t u) (rOrV r q) :=
  ⟨pe_or h.run h2.run, ⟨fun {H0 Z O σ H ρ o Q} hh e er k => h.snd.bnd hh e er fun d v H1 e1 x1 hh1 d1 => by
    cases d with
    | bool c =>
      cases d1
      refine ⟨c, rfl, ?_⟩
      cases c with
      | true =>
        refine iteT ?_
        cases e1
        exact k _ _ H1 rfl x1 (.bl true)
      | false =>
        refine iteF ?_
        exact h2.snd.go hh1 e1 (er.go x1) fun d v H' q x => k d v H' q (x1.trans x)
    | _ => cases e1⟩⟩
theorem de_not {a : Expr} {pos : Pos} {t : TE} {r : RE} {fs : Bool} (h : DE F E X fs a t r) : DE F E X fr (.UnaryOp .Not a pos) (tNotV t) (rNotV r) :=
  ⟨pe_not h.run, ⟨fun {H0 Z O σ H ρ o Q} hh e er k => h.snd.bnd hh e er fun d v H1 e1 x1 hh1 d1 => by
    cases d with
    | bool c =>
      cases d1
      cases e1
      exact ⟨c, rfl, k _ _ H1 rfl x1 (.bl _)⟩
    | _ => cases e1⟩⟩
/-- a value of a plain kind speaks of no object -/
def flatD : D → Bool
  | .none | .bool _ | .int _ | .str _ => true
  | _ => false
def rFlat (r : RE) : RE := fun ρ => bnd (r ρ) fun d => if flatD d = true then some (.ok d) else none
theorem dp_flat {K : PySem.W.Frag} {H H' : Hp} {v : V} {d : D} (h : flatD d = true) (q : Fit K H v d) : Fit K H' v d := by
  cases q with
  | non => exact .non
  | bl b => exact .bl b
  | int i => exact .int i
  | str x => exact .str x
  | lst _ _ => cases h
  | tup _ _ => cases h
  | ro _ _ => cases h
theorem de_flat {a : Expr} {t : TE} {r : RE} {fs : Bool} (h : DE F E X fs a t r) : DE F E X fr a t (rFlat r) := ⟨h.run, ⟨fun {H0 Z O σ H ρ o Q} hh e er k => h.snd.bnd hh e er fun d v H1 e1 x1 hh1 d1 => by
  by_cases c : flatD d = true
  · rw [if_pos c] at e1
    cases e1
    exact k d v H1 rfl x1 (dp_flat c d1)
  · rw [if_neg c] at e1; cases e1⟩⟩
theorem DE.low {a : Expr} {t : TE} {r : RE} (h : DE F E X true a t r) : DE F E X fr a t r := ⟨h.run, ⟨fun {H0 Z O σ H ρ o Q} hh e er k => h.snd.go hh e er fun d v H' q x y => k d v H' q x (dp_mono hp_low y)⟩⟩
/-- x if t else y -/
def rIfE (rt : RT) (ra rb : RE) : RE := fun ρ => bnd (rt ρ) fun b => if b = true then ra ρ else rb ρ
theorem de_ifExp {c a b : Expr} {pos : Pos} {tc : TT} {ta tb : TE} {rc : RT} {ra rb : RE} (hc : DT F E X c tc rc) (ha : DE F E X fr a ta ra) (hb : DE F E X fr b tb rb) : DE F E X fr (.IfExp c a b pos) (tIf tc ta tb) (rIfE rc ra rb) :=
  ⟨pe_ifExp hc.run ha.run hb.run, ⟨fun {H0 Z O σ H ρ o Q} hh e er k => hc.snd.bnd hh e er fun c H1 e1 x1 hh1 => by
    cases c with
    | true => exact iteT (ha.snd.go hh1 e1 (er.go x1) fun d v H' q x => k d v H' q (x1.trans x))
    | false => exact iteF (hb.snd.go hh1 e1 (er.go x1) fun d v H' q x => k d v H' q (x1.trans x))⟩⟩

/-! ### argument lists, displays -/
def rNil : RA := fun _ => some (.ok [])
def rCons (r : RE) (rs : RA) : RA := fun ρ => bnd (r ρ) fun d => bnd (rs ρ) fun ds => some (.ok (d :: ds))
theorem da_nil : DA F E X fr [] tNil rNil := ⟨pa_nil, ⟨fun {H0 Z O σ H ρ o Q} hh e er k => by cases e; exact k [] [] H rfl (Ext.refl _ _) .nil⟩⟩
theorem da_cons {e : Expr} {es : List Expr} {te : TE} {t : TA} {r : RE} {rs : RA} (h : DE F E X fr e te r) (h2 : DA F E X fr es t rs) (hs : starEach (e :: es) X.env = (false, eval e X.env) :: starEach es X.env := by rfl) : DA F E X fr (e :: es) (tCons te t) (rCons r rs) :=
  ⟨pa_cons h.run h2.run hs, ⟨fun {H0 Z O σ H ρ o Q} hh e er k => h.snd.bnd hh e er fun d v H1 e1 x1 hh1 d1 => h2.snd.bnd hh1 e1 (er.go x1) fun ds vs H2 e2 x2 hh2 d2 => by
    cases e2
    exact k (d :: ds) (v :: vs) H2 rfl (x1.trans x2) (.cons (dp_mono (hp_ext x2) d1) d2)⟩⟩
theorem dp_newT {K : PySem.W.Frag} {O : List (Option Addr)} {H : Hp} {p : Addr} {vs : List V} {ds : List D} (n : H p = none) (nb : ¬ (F.bad p ∨ (fr = true ∧ some p ∈ O))) (h : FitAll K (hp F O fr H) vs ds) :
    Fit K (hp F O fr (upd H p (.tup vs))) (.ref p) (.tuple ds) := .tup (SqT.of (hp_some.mpr ⟨nb, upd_same⟩)) (dps_mono (hp_ext (ext_new n _)) h)
theorem dp_newL {K : PySem.W.Frag} {O : List (Option Addr)} {H : Hp} {p : Addr} {vs : List V} {ds : List D} (n : H p = none) (nb : ¬ (F.bad p ∨ (fr = true ∧ some p ∈ O))) (h : FitAll K (hp F O fr H) vs ds) :
    Fit K (hp F O fr (upd H p (.lst vs))) (.ref p) (.list ds) := .lst (Rd.of (hp_some.mpr ⟨nb, upd_same⟩)) (dps_mono (hp_ext (ext_new n _)) h)
def rTup (rs : RA) : RE := fun ρ => bnd (rs ρ) fun ds => if ds.length ≤ 1000 then some (.ok (.tuple ds)) else none
def rLst (rs : RA) : RE := fun ρ => bnd (rs ρ) fun ds => if ds.length ≤ 1000 then some (.ok (.list ds)) else none
theorem sz1000 {n : Nat} (h : n ≤ 1000) : n ≤ sizeLine := Nat.le_trans h (by decide)
theorem de_tup {es : List Expr} {k : Nat} {pos : Pos} {t : TA} {rs : RA} (h : DA F E X fr es t rs) : DE F E X fr (.Tuple es k pos) (tTup t) (rTup rs) :=
  ⟨pe_tup h.run, ⟨fun {H0 Z O σ H ρ o Q} hh e er k => h.snd.bnd hh e er fun ds vs H1 e1 x1 hh1 d1 => by
    by_cases c : ds.length ≤ 1000
    · rw [if_pos c] at e1
      cases e1
      exact ⟨by rw [FitAll.len d1]; exact sz1000 c, fun p n => k _ _ _ rfl (x1.trans (ext_new n _)) (dp_newT n (hh1.fresh n) d1)⟩
    · rw [if_neg c] at e1; cases e1⟩⟩
theorem de_lst {es : List Expr} {pos : Pos} {t : TA} {rs : RA} (h : DA F E X fr es t rs) : DE F E X fr (.List es pos) (tLst t) (rLst rs) :=
  ⟨pe_lst h.run, ⟨fun {H0 Z O σ H ρ o Q} hh e er k => h.snd.bnd hh e er fun ds vs H1 e1 x1 hh1 d1 => by
    by_cases c : ds.length ≤ 1000
    · rw [if_pos c] at e1
      cases e1
      exact ⟨by rw [FitAll.len d1]; exact sz1000 c, fun p n => k _ _ _ rfl (x1.trans (ext_new n _)) (dp_newL n (hh1.fresh n) d1)⟩
    · rw [if_neg c] at e1; cases e1⟩⟩

/-! ### calls of built-ins by values -/
structure ClS (K : PySem.W.Frag) (r : List V → Hp → VK → Prop) (g : List D → Option D) : Prop where
  go : ∀ {F : Fx} {O : List (Option Addr)} {fr : Bool} {H : Hp} {vs : List V} {ds : List D} {d : D} {Q : VK}, (∀ p, H p = none → ¬ (F.bad p ∨ (fr = true ∧ some p ∈ O))) → FitAll K (hp F O fr H) vs ds → g ds = some d →
    (∀ v H', Ext F H H' → Fit K (hp F O fr H') v d → Q v H') → r vs H Q
def rCl (g : List D → Option D) (rs : RA) : RE := fun ρ => bnd (rs ρ) fun ds => okO (g ds)
theorem se_cl {K : PySem.W.Frag} {r : List V → Hp → VK → Prop} {g : List D → Option D} {t : TA} {rs : RA} (hs : ClS K r g) (h : SA K F E fr t rs) : SE K F E fr (tCB r t) (rCl g rs) :=
  ⟨fun {H0 Z O σ H ρ o Q} hh e er k => h.bnd hh e er fun ds vs H1 e1 x1 hh1 d1 => by
    obtain ⟨d, e3, rfl⟩ := okO_eq e1
    exact hs.go (fun p n => hh1.fresh n) d1 e3 fun u H3 x3 d3 => k d u H3 rfl (x1.trans x3) d3⟩
theorem de_callB {e : Expr} {es : List Expr} {id : String} {x : Str} {p pos : Pos} {r : List V → Hp → VK → Prop} {g : List D → Option D} {t : TA} {rs : RA} (hs : ClS X.K r g) (hc : CallR X (.builtin id) r) (hm : X.mg x = none) (hv : bootBuiltins x = some (.builtin id)) (ha : DA F E X fr (e :: es) t rs)
    (hg : Gl X x := by rfl) (hn : x ≠ "__name__" := by decide) (hdb : (x == ("__debug__" : Str)) = false := by decide)
    (he : starEach (e :: es) X.env = (false, eval e X.env) :: starEach es X.env := by rfl) (hpl : (backTo pos (starEach es X.env)).any (·.1) = false := by rfl) :
    DE F E X fr (.Call (.Name x p) (e :: es) [] pos) (tCB r t) (rCl g rs) := ⟨pe_callB hc hg hm hv ha.run hn hdb he hpl, se_cl hs ha.snd⟩
theorem de_callTy {e : Expr} {es : List Expr} {T : String} {x : Str} {p pos : Pos} {r : List V → Hp → VK → Prop} {g : List D → Option D} {t : TA} {rs : RA} (hs : ClS X.K r g) (hc : CallR X (.type T) r) (hm : X.mg x = none) (hv : bootBuiltins x = some (.type T)) (ha : DA F E X fr (e :: es) t rs)
    (hg : Gl X x := by rfl) (hn : x ≠ "__name__" := by decide) (hdb : (x == ("__debug__" : Str)) = false := by decide)
    (he : starEach (e :: es) X.env = (false, eval e X.env) :: starEach es X.env := by rfl) (hpl : (backTo pos (starEach es X.env)).any (·.1) = false := by rfl) :
    DE F E X fr (.Call (.Name x p) (e :: es) [] pos) (tCB r t) (rCl g rs) := ⟨pe_callTy hc hg hm hv ha.run hn hdb he hpl, se_cl hs ha.snd⟩
end
end DL
set_option Elab.async false
set_option linter.all false
set_option maxRecDepth 100000
namespace DL
open PySem L2

/-! ### statements -/
inductive Out where
  | nx (ρ : En)
  | bk (ρ : En)
  | ct (ρ : En)
  | rt (d : D)
  | ex (c : Cn)
abbrev RS := En → Option Out
def toS {α : Type} (x : R α) (k : α → Option Out) : Option Out := match x with
  | some (.ok a) => k a
  | some (.error c) => some (.ex c)
  | none => none
@[simp] theorem toS_ok {α : Type} (a : α) (k : α → Option Out) : toS (some (.ok a)) k = k a := rfl
@[simp] theorem toS_er {α : Type} (c : Cn) (k : α → Option Out) : toS (some (.error c)) k = some (.ex c) := rfl
@[simp] theorem toS_no {α : Type} (k : α → Option Out) : toS none k = none := rfl
def Aft (K : PySem.W.Frag) (F : Fx) (E : XK) (H0 Z : Hp) (D : Ends) : Out → Prop
  | .nx ρ => ∀ O σ H, Holds K F H0 Z O σ H ρ → D.nx σ H
  | .bk ρ => ∀ O σ H, Holds K F H0 Z O σ H ρ → D.bk σ H
  | .ct ρ => ∀ O σ H, Holds K F H0 Z O σ H ρ → D.ct σ H
  | .rt d => ∀ v H, Ext F H0 H → Fit K (hp F [] false H) v d → D.rt v H
  | .ex c => ∀ H, Ext F H0 H → E (F.exc c) none H
structure SS (K : PySem.W.Frag) (F : Fx) (E : XK) (t : TS) (r : RS) : Prop where
  go : ∀ {H0 Z O σ H ρ o D}, Holds K F H0 Z O σ H ρ → r ρ = some o → Aft K F E H0 Z D o → t D σ H
structure DS (F : Fx) (E : XK) (X : Cx) (st : Stmt) (t : TS) (r : RS) : Prop where
  run : PS X st t
  snd : SS X.K F E t r
structure DSs (F : Fx) (E : XK) (X : Cx) (st : List Stmt) (t : TS) (r : RS) : Prop where
  run : PSs X st t
  snd : SS X.K F E t r
section
variable {K : PySem.W.Frag} {F : Fx} {E : XK} {fr : Bool}
theorem hp_f {O O' : List (Option Addr)} {H : Hp} : Same (hp F O false H) (hp F O' false H) := fun a o h => by
  obtain ⟨n, q⟩ := hp_some.mp h
  exact hp_some.mpr ⟨fun z => n (z.elim .inl fun y => nomatch y.1), q⟩
theorem hp_ff {O O' : List (Option Addr)} {H : Hp} : Same (hp F O fr H) (hp F O' false H) := fun a o h => by
  obtain ⟨n, q⟩ := hp_some.mp h
  exact hp_some.mpr ⟨fun z => n (z.elim .inl fun y => nomatch y.1), q⟩
theorem toS_cases {α : Type} {x : R α} {g : α → Option Out} {o : Out} (h : toS x g = some o) : (∃ a, x = some (.ok a) ∧ g a = some o) ∨ (∃ c, x = some (.error c) ∧ o = .ex c) := by
  cases x with
  | none => cases h
  | some y =>
    cases y with
    | ok a => exact .inl ⟨a, rfl, h⟩
    | error c => exact .inr ⟨c, rfl, (Option.some.inj h).symm⟩
theorem aft_err {H0 Z O σ H ρ D} {c : Cn} {β : Type} (hh : Holds K F H0 Z O σ H ρ) (a : Aft K F E H0 Z D (.ex c)) : Err F E H (.error c : Except Cn β) := fun c' q H' x => by
  cases q
  exact a H' (hh.ext.trans x)
theorem SE.st {t : TE} {r : RE} (h : SE K F E fr t r) {H0 Z O σ H ρ D} (hh : Holds K F H0 Z O σ H ρ) {g : DL.D → Option Out} {o : Out} {Q : VK} (e : toS (r ρ) g = some o) (er : Aft K F E H0 Z D o)
    (k : ∀ d v H1, g d = some o → Ext F H H1 → Holds K F H0 Z O σ H1 ρ → Fit K (hp F O fr H1) v d → Q v H1) : t σ H Q := by
  rcases toS_cases e with ⟨a, e1, e2⟩ | ⟨c, e1, e2⟩
  · exact h.go hh e1 Err.ok fun d v H' q x y => by cases q; exact k a v H' e2 x (hh.go x) y
  · subst e2; exact h.go hh e1 (aft_err hh er) fun d v H' q => nomatch q
theorem ST.st {t : TT} {r : RT} (h : ST K F E t r) {H0 Z O σ H ρ D} (hh : Holds K F H0 Z O σ H ρ) {g : Bool → Option Out} {o : Out} {Q : Bool → Hp → Prop} (e : toS (r ρ) g = some o) (er : Aft K F E H0 Z D o)
    (k : ∀ b H1, g b = some o → Ext F H H1 → Holds K F H0 Z O σ H1 ρ → Q b H1) : t σ H Q := by
  rcases toS_cases e with ⟨a, e1, e2⟩ | ⟨c, e1, e2⟩
  · exact h.go hh e1 Err.ok fun d H' q x => by cases q; exact k a H' e2 x (hh.go x)
  · subst e2; exact h.go hh e1 (aft_err hh er) fun d H' q => nomatch q
theorem SA.st {t : TA} {r : RA} (h : SA K F E fr t r) {H0 Z O σ H ρ D} (hh : Holds K F H0 Z O σ H ρ) {g : List DL.D → Option Out} {o : Out} {Q : List V → Hp → Prop} (e : toS (r ρ) g = some o) (er : Aft K F E H0 Z D o)
    (k : ∀ ds vs H1, g ds = some o → Ext F H H1 → Holds K F H0 Z O σ H1 ρ → FitAll K (hp F O fr H1) vs ds → Q vs H1) : t σ H Q := by
  rcases toS_cases e with ⟨a, e1, e2⟩ | ⟨c, e1, e2⟩
  · exact h.go hh e1 Err.ok fun d v H' q x y => by cases q; exact k a v H' e2 x (hh.go x) y
  · subst e2; exact h.go hh e1 (aft_err hh er) fun d v H' q => nomatch q
end
section
variable {F : Fx} {E : XK} {X : Cx} {fr : Bool} {pos : Pos}
def sNil : RS := fun ρ => some (.nx ρ)
def sSeq (r q : RS) : RS := fun ρ => match r ρ with
  | some (.nx ρ') => q ρ'
  | x => x
theorem dss_nil : DSs F E X [] tNext sNil := ⟨pss_nil, ⟨fun {H0 Z O σ H ρ o D} hh e a => by cases e; exact a O σ H hh⟩⟩
theorem dss_one {st : Stmt} {t : TS} {r : RS} (h : DS F E X st t r) : DSs F E X [st] t r := ⟨pss_one h.run, h.snd⟩
theorem dss_cons {st : Stmt} {sts : List Stmt} {t u : TS} {r q : RS} (h : DS F E X st t r) (h2 : DSs F E X sts u q) : DSs F E X (st :: sts) (tSeq t u) (sSeq r q) :=
  ⟨pss_cons h.run h2.run, ⟨fun {H0 Z O σ H ρ o D} hh e a => by
    unfold sSeq at e
    cases c : r ρ with
    | none => rw [c] at e; cases e
    | some o1 =>
      rw [c] at e
      refine h.snd.go (D := { D with nx := u D }) hh c ?_
      cases o1 with
      | nx ρ1 => exact fun O' σ' H' h' => h2.snd.go h' e a
      | bk ρ1 => cases e; exact a
      | ct ρ1 => cases e; exact a
      | rt d => cases e; exact a
      | ex c => cases e; exact a⟩⟩
def sExpr (r : RE) : RS := fun ρ => toS (r ρ) fun _ => some (.nx ρ)
def sRet (r : RE) : RS := fun ρ => toS (r ρ) fun d => some (.rt d)
def sSet (i : Nat) (r : RE) : RS := fun ρ => toS (r ρ) fun d => some (.nx (ρ.set i (.val d)))
def sIf (rc : RT) (r q : RS) : RS := fun ρ => toS (rc ρ) fun b => if b = true then r ρ else q ρ
theorem ds_expr {e : Expr} {t : TE} {r : RE} (h : DE F E X fr e t r) (hs : swapsWith e none pos.line X.env = pure false := by rfl) : DS F E X (.Expr e pos) (tDrop t) (sExpr r) :=
  ⟨ps_expr h.run hs, ⟨fun {H0 Z O σ H ρ o D} hh e a => h.snd.st hh e a fun d v H1 e1 x1 hh1 _ => by cases e1; exact a O σ H1 hh1⟩⟩
theorem ds_ret {e : Expr} {t : TE} {r : RE} (h : DE F E X fr e t r) : DS F E X (.Return (some e) pos) (tRet t) (sRet r) :=
  ⟨ps_ret h.run, ⟨fun {H0 Z O σ H ρ o D} hh e a => h.snd.st hh e a fun d v H1 e1 x1 hh1 d1 => by cases e1; exact a v H1 hh1.ext (dp_mono hp_ff d1)⟩⟩
theorem ds_set (i : Nat) {x : Str} {e : Expr} {t : TE} {r : RE} {pos' : Pos} (hN : X.N.Nodup) (h : DE F E X true e t r) (hi : X.N[i]? = some x := by rfl) (hx : Loc X.env.scope x := by first | exact Or.inl rfl | exact Or.inr rfl) (hs : swapsWith e (some (.Name x pos')) pos.line X.env = pure false := by rfl)
    (hf : X.fn x = true ∨ X.env.scope.names.lookup x = some .local := by first | exact .inl rfl | exact .inr rfl | assumption) : DS F E X (.Assign [.Name x pos'] e pos) (tAsg t (gName i)) (sSet i r) :=
  ⟨ps_set hN hi hx h.run hs hf, ⟨fun {H0 Z O σ H ρ o D} hh e a => h.snd.st hh e a fun d v H1 e1 x1 hh1 d1 => by cases e1; exact a _ _ _ (hh1.set i d1)⟩⟩
theorem ds_if {c : Expr} {a b : List Stmt} {tc : TT} {t u : TS} {rc : RT} {r q : RS} (hc : DT F E X c tc rc) (ha : DSs F E X a t r) (hb : DSs F E X b u q) : DS F E X (.If c a b pos) (tIfS tc t u) (sIf rc r q) :=
  ⟨ps_if hc.run ha.run hb.run, ⟨fun {H0 Z O σ H ρ o D} hh e a => hc.snd.st hh e a fun b H1 e1 x1 hh1 => by
    cases b with
    | true => exact iteT (ha.snd.go hh1 e1 a)
    | false => exact iteF (hb.snd.go hh1 e1 a)⟩⟩
theorem ds_pass : DS F E X (.Pass pos) tNext sNil := ⟨ps_pass, ⟨fun {H0 Z O σ H ρ o D} hh e a => by cases e; exact a O σ H hh⟩⟩
def sCont : RS := fun ρ => some (.ct ρ)
def sBrk : RS := fun ρ => some (.bk ρ)
theorem ds_continue : DS F E X (.Continue pos) tCont sCont := ⟨ps_continue, ⟨fun {H0 Z O σ H ρ o D} hh e a => by cases e; exact a O σ H hh⟩⟩
theorem ds_break : DS F E X (.Break pos) tBreak sBrk := ⟨ps_break, ⟨fun {H0 Z O σ H ρ o D} hh e a => by cases e; exact a O σ H hh⟩⟩
def sRetN : RS := fun _ => some (.rt .none)
theorem ds_retN : DS F E X (.Return none pos) tRetN sRetN := ⟨ps_retN, ⟨fun {H0 Z O σ H ρ o D} hh e a => by cases e; exact a _ _ hh.ext .non⟩⟩
/-! lists of one's own -/
def sOwn (i : Nat) (rs : RA) : RS := fun ρ => toS (rs ρ) fun ds => if ds.length ≤ 1000 then some (.nx (ρ.set i (.own ds))) else none
theorem ds_ownLst (i : Nat) {x : Str} {es : List Expr} {t : TA} {rs : RA} {pos' pos2 : Pos} (hN : X.N.Nodup) (h : DA F E X true es t rs) (hi : X.N[i]? = some x := by rfl) (hx : Loc X.env.scope x := by first | exact Or.inl rfl | exact Or.inr rfl) (hs : swapsWith (.List es pos2) (some (.Name x pos')) pos.line X.env = pure false := by rfl)
    (hf : X.fn x = true ∨ X.env.scope.names.lookup x = some .local := by first | exact .inl rfl | exact .inr rfl | assumption) : DS F E X (.Assign [.Name x pos'] (.List es pos2) pos) (tAsg (tLst t) (gName i)) (sOwn i rs) :=
  ⟨ps_set hN hi hx (pe_lst h.run) hs hf, ⟨fun {H0 Z O σ H ρ o D} hh e a => h.snd.st hh e a fun ds vs H1 e1 x1 hh1 d1 => by
    by_cases c : ds.length ≤ 1000
    · rw [if_pos c] at e1
      cases e1
      refine ⟨by rw [FitAll.len d1]; exact sz1000 c, fun p n => a _ _ _ (hh1.setOwn (ext_new n _) i n upd_same (dps_mono (fun b o q => ?_) d1))⟩
      obtain ⟨q1, q2⟩ := hp_some.mp q
      have ne : b ≠ p := ne_of_none q2 n
      refine hp_some.mpr ⟨fun z => ?_, by rw [upd_ne ne]; exact q2⟩
      rcases z with z | ⟨_, z⟩
      · exact q1 (.inl z)
      · rcases List.mem_cons.mp z with z | z
        · cases z; exact ne rfl
        · exact q1 (.inr ⟨rfl, z⟩)
    · rw [if_neg c] at e1; cases e1⟩⟩
theorem szM {n : Nat} (h : n < 1000000) : n < sizeLine := Nat.lt_trans h (by decide)
theorem szMe {n : Nat} (h : n ≤ 1000000) : n ≤ sizeLine := Nat.le_trans h (by decide)
def sMut (i : Nat) (r : RE) (f : List D → D → Option (List D)) : RS := fun ρ => match ρ[i]? with
  | some (.own ds) => toS (r ρ) fun d => match f ds d with
    | some es => some (.nx (ρ.set i (.own es)))
    | none => none
  | _ => none
def appF (ds : List D) (d : D) : Option (List D) := if ds.length < 1000000 then some (ds ++ [d]) else none
def extF (ds : List D) (d : D) : Option (List D) := match d with
  | .list es => if ds.length + es.length ≤ 1000000 then some (ds ++ es) else none
  | _ => none
/-- x.extend(y), y any list -/
def rExtendQ : V → List V → Hp → VK → Prop := fun x vs H Q => ∃ l b xs zs, x = .ref l ∧ vs = [.ref b] ∧ H l = some (.lst xs) ∧ Rd H b (.lst zs) ∧ xs.length + zs.length ≤ sizeLine ∧ Q .non (upd H l (.lst (xs ++ zs)))
theorem mt_extendQ : MtM X "list.extend" rExtendQ := by
  intro pins s σ H x vs v us Q I rx rv h
  obtain ⟨l, b, xs, zs, rfl, rfl, hH, hB, hz, q⟩ := h
  cases rx
  obtain ⟨u, rfl, ru⟩ := rv.one
  cases ru
  obtain ⟨z, its, n, r, hl, e⟩ := I.lstM hH
  obtain ⟨z2, its2, n2, r2, e2⟩ := hB.ok I.hok
  have hl2 := r2.length
  have hsz : its.toArray.size + its2.toArray.size ≤ sizeLine := by rw [List.size_toArray, List.size_toArray]; omega
  have hlong : ¬ (!its.toArray.isEmpty && Builtin.List.listTooLong (its.toArray.size + its2.toArray.size)) = true := by
    rw [notLongL hsz, Bool.and_false]
    exact Bool.false_ne_true
  refine call_meets F.slot_list_extend ⟨_, e, rfl⟩ F.entry_list_extend (F.args_list_extend_2 _ _)
    (AutoSeq1.list_extend_list_list_0 l its.toArray n b its2.toArray n2 hlong (by rw [List.size_toArray]; omega) (by omega)) ⟨e, e2, ?_⟩
  refine ⟨.non, _, I.lset (its' := its ++ its2) hH e (by simp) (r.append r2) ?_, rfl, q⟩
  rw [List.length_append]
  omega
theorem ss_mut {K : PySem.W.Frag} {i : Nat} {te : TE} {r : RE} {f : List DL.D → DL.D → Option (List DL.D)} {rd : V → List V → Hp → VK → Prop} (h : SE K F E true te r)
    (hf : ∀ {O : List (Option Addr)} {H : Hp} {a : Addr} {vs : List V} {ds es : List DL.D} {v : V} {d : DL.D} {Q : VK}, H a = some (.lst vs) → FitAll K (hp F O true H) vs ds → Fit K (hp F O true H) v d → f ds d = some es →
      (∀ ws u, FitAll K (hp F O true H) ws es → Q u (upd H a (.lst ws))) → rd (.ref a) [v] H Q) : SS K F E (tDrop (tBM K "list" rd (tVar i) (tCons te tNil))) (sMut i r f) := ⟨fun {H0 Z O σ H ρ o D} hh e a => by
  unfold sMut at e
  split at e
  · rename_i ds q
    obtain ⟨b, vs, y1, y2, y3, y4⟩ := hh.own i ds q
    refine ⟨_, y2, .inl ⟨rfl, _, SqL.of y3⟩, h.st hh e a fun d v H1 e1 x1 hh1 d1 => ?_⟩
    obtain ⟨b', vs', z1, z2, z3, z4⟩ := hh1.own i ds q
    rw [y1] at z1
    cases z1
    cases c : f ds d with
    | none => rw [c] at e1; cases e1
    | some es =>
      rw [c] at e1
      cases e1
      exact hf z3 z4 d1 c fun ws u w => a _ _ _ (hh1.mut y1 q z3 w)
  · cases e⟩
section
variable {i : Nat} {x : Str} {e : Expr} {te : TE} {r : RE} {px pa pc : Pos}
/-- x.append(e) -/
theorem ds_append (i : Nat) (h : DE F E X true e te r) (hN : X.N[i]? = some x := by rfl) (hv : Vis X.env.scope x := by first | exact Or.inl rfl | exact Or.inr (Or.inl rfl) | exact Or.inr (Or.inr rfl)) (hd : (x == ("__debug__" : Str)) = false := by decide)
    (hcd : (x == ("__classdict__" : Str)) = false := by decide) (hs : swapsWith (.Call (.Attribute (.Name x px) "append" pa) [e] [] pc) none pos.line X.env = pure false := by rfl)
    (hbase : attributeBase (.Name x px) "append" X.env (eval (.Name x px) X.env) = eval (.Name x px) X.env := by rfl)
    (hfew : ((backTo pc (starEach [e] X.env)).all (fun x => !x.1) && (backToKw pc (keywordEach [] X.env)).all (fun x => x.1.isSome)
      && decide ([e].length + ([] : List Keyword).length + (if ([] : List Keyword).isEmpty then 0 else 1) < 30)) = true := by rfl)
    (hline : (pa.endLine == pc.line) = true := by rfl) (hst : starEach [e] X.env = (false, eval e X.env) :: starEach [] X.env := by rfl) (hplain : (backTo pc (starEach [] X.env)).any (·.1) = false := by rfl) :
    DS F E X (.Expr (.Call (.Attribute (.Name x px) "append" pa) [e] [] pc) pos) (tDrop (tBM X.K "list" rAppend (tVar i) (tCons te tNil))) (sMut i r appF) :=
  ⟨ps_expr (pe_bm PySem.F.plainAttrs_list PySem.F.slot_list_append PySem.F.type_list_append mt_append (pe_var hN hv hd hcd) (pa_cons h.run pa_nil hst) hbase hfew hline hst hplain) hs, ss_mut h.snd fun {O H a vs ds es v d Q} h1 h2 h3 h4 k => by
    unfold appF at h4
    split at h4
    · rename_i c
      cases h4
      exact ⟨a, vs, v, rfl, rfl, h1, by rw [FitAll.len h2]; exact szM c, k _ _ (FitAll.app h2 (.cons h3 .nil))⟩
    · cases h4⟩
/-- x.extend(e) -/
theorem ds_extend (i : Nat) (h : DE F E X true e te r) (hN : X.N[i]? = some x := by rfl) (hv : Vis X.env.scope x := by first | exact Or.inl rfl | exact Or.inr (Or.inl rfl) | exact Or.inr (Or.inr rfl)) (hd : (x == ("__debug__" : Str)) = false := by decide)
    (hcd : (x == ("__classdict__" : Str)) = false := by decide) (hs : swapsWith (.Call (.Attribute (.Name x px) "extend" pa) [e] [] pc) none pos.line X.env = pure false := by rfl)
    (hbase : attributeBase (.Name x px) "extend" X.env (eval (.Name x px) X.env) = eval (.Name x px) X.env := by rfl)
    (hfew : ((backTo pc (starEach [e] X.env)).all (fun x => !x.1) && (backToKw pc (keywordEach [] X.env)).all (fun x => x.1.isSome)
      && decide ([e].length + ([] : List Keyword).length + (if ([] : List Keyword).isEmpty then 0 else 1) < 30)) = true := by rfl)
    (hline : (pa.endLine == pc.line) = true := by rfl) (hst : starEach [e] X.env = (false, eval e X.env) :: starEach [] X.env := by rfl) (hplain : (backTo pc (starEach [] X.env)).any (·.1) = false := by rfl) :
    DS F E X (.Expr (.Call (.Attribute (.Name x px) "extend" pa) [e] [] pc) pos) (tDrop (tBM X.K "list" rExtendQ (tVar i) (tCons te tNil))) (sMut i r extF) :=
  ⟨ps_expr (pe_bm PySem.F.plainAttrs_list PySem.F.slot_list_extend PySem.F.type_list_extend mt_extendQ (pe_var hN hv hd hcd) (pa_cons h.run pa_nil hst) hbase hfew hline hst hplain) hs, ss_mut h.snd fun {O H a vs ds es v d Q} h1 h2 h3 h4 k => by
    unfold extF at h4
    split at h4
    · split at h4
      · rename_i es' c
        cases h4
        cases h3 with
        | lst g1 g2 => exact ⟨a, _, vs, _, rfl, rfl, h1, rd_mono hp_le g1, by rw [FitAll.len h2, FitAll.len g2]; exact szMe c, k _ _ (FitAll.app h2 g2)⟩
      · cases h4
    · cases h4⟩
end
def sPop (i : Nat) : RS := fun ρ => match ρ[i]? with
  | some (.own ds) => if ds = [] then none else some (.nx (ρ.set i (.own ds.dropLast)))
  | _ => none
theorem FitAll.dropLast {K : PySem.W.Frag} {H : Hp} {vs : List V} {ds : List DL.D} (h : FitAll K H vs ds) : FitAll K H vs.dropLast ds.dropLast := by
  rw [List.dropLast_eq_take, List.dropLast_eq_take, FitAll.len h]
  exact FitAll.take _ h
/-- x.pop(), its value dropped -/
theorem ds_pop (i : Nat) {x : Str} {px pa pc : Pos} (hN : X.N[i]? = some x := by rfl) (hv : Vis X.env.scope x := by first | exact Or.inl rfl | exact Or.inr (Or.inl rfl) | exact Or.inr (Or.inr rfl)) (hd : (x == ("__debug__" : Str)) = false := by decide)
    (hcd : (x == ("__classdict__" : Str)) = false := by decide) (hs : swapsWith (.Call (.Attribute (.Name x px) "pop" pa) [] [] pc) none pos.line X.env = pure false := by rfl)
    (hbase : attributeBase (.Name x px) "pop" X.env (eval (.Name x px) X.env) = eval (.Name x px) X.env := by rfl) (hline : (pa.endLine == pc.line) = true := by rfl) :
    DS F E X (.Expr (.Call (.Attribute (.Name x px) "pop" pa) [] [] pc) pos) (tDrop (tBM0 X.K "list" rPop (tVar i))) (sPop i) :=
  ⟨ps_expr (pe_bm0 PySem.F.plainAttrs_list PySem.F.slot_list_pop PySem.F.type_list_pop mt_pop (pe_var hN hv hd hcd) hbase hline) hs, ⟨fun {H0 Z O σ H ρ o D} hh e a => by
    unfold sPop at e
    split at e
    · rename_i ds q
      obtain ⟨b, vs, y1, y2, y3, y4⟩ := hh.own i ds q
      split at e
      · cases e
      · rename_i ne
        cases e
        have hl := FitAll.len y4
        have hp : 0 < ds.length := List.length_pos_iff.mpr ne
        have hlt : vs.length - 1 < vs.length := by omega
        refine ⟨_, y2, .inl ⟨rfl, _, SqL.of y3⟩, b, vs, vs[vs.length - 1], rfl, rfl, y3, List.getElem?_eq_getElem hlt, ?_⟩
        exact a _ _ _ (hh.mut y1 q y3 (FitAll.dropLast y4))
    · cases e⟩⟩
/-! raise X('..') -/
def sRaise (c : Cn) : RS := fun _ => some (.ex c)
theorem ds_raise {c : Cn} {e : Expr} {C : Addr} (hc : X.calm = true) (tk : Takes X (fun cls d _ H => E cls d H)) (he : PMk X e (fun _ H Q => Q (.ref C) none H)) (hx : F.exc c = .ref C) : DS F E X (.Raise (some e) none pos) (fun _ σ H => E (.ref C) none H) (sRaise c) :=
  ⟨ps_raise hc tk he, ⟨fun {H0 Z O σ H ρ o D} hh e a => by
    cases e
    have q : E (F.exc c) none H := a H hh.ext
    rw [hx] at q
    exact q⟩⟩
end
end DL
set_option Elab.async false
set_option linter.all false
set_option maxRecDepth 100000
namespace DL
open PySem L2

/-! ### targets -/
abbrev RG := D → En → Option En
structure SG (K : PySem.W.Frag) (F : Fx) (g : TG) (rg : RG) (vs : List Nat) : Prop where
  go : ∀ {H0 Z O σ H ρ v d ρ'} {Q : L2.St → Hp → Prop}, Holds K F H0 Z O σ H ρ → Fit K (hp F O true H) v d → rg d ρ = some ρ' → (∀ O' σ', Holds K F H0 Z O' σ' H ρ' → Same (hp F O true H) (hp F O' true H) → wipe σ' vs = wipe σ vs → ((∀ i ∈ vs, ∀ a, O[i]? ≠ some (some a)) → (∀ a, some a ∈ O → some a ∈ O') ∧ ∀ i ∈ vs, ∀ a, O'[i]? ≠ some (some a)) → Q σ' H) → g v σ H Q
abbrev RGs := List D → En → Option En
structure SGs (K : PySem.W.Frag) (F : Fx) (g : TGs) (rg : RGs) (vs : List Nat) : Prop where
  go : ∀ {H0 Z O σ H ρ xs ds ρ'} {Q : L2.St → Hp → Prop}, Holds K F H0 Z O σ H ρ → FitAll K (hp F O true H) xs ds → rg ds ρ = some ρ' → (∀ O' σ', Holds K F H0 Z O' σ' H ρ' → Same (hp F O true H) (hp F O' true H) → wipe σ' vs = wipe σ vs → ((∀ i ∈ vs, ∀ a, O[i]? ≠ some (some a)) → (∀ a, some a ∈ O → some a ∈ O') ∧ ∀ i ∈ vs, ∀ a, O'[i]? ≠ some (some a)) → Q σ' H) → g xs σ H Q
structure DG (F : Fx) (X : Cx) (tg : Expr) (g : TG) (rg : RG) (vs : List Nat) : Prop where
  run : PG X tg g
  snd : SG X.K F g rg vs
structure DGs (F : Fx) (X : Cx) (tg : List Expr) (g : TGs) (rg : RGs) (vs : List Nat) : Prop where
  run : PGs X tg g
  snd : SGs X.K F g rg vs
theorem wipe_get (σ : L2.St) : ∀ (vs : List Nat) (i : Nat), (wipe σ vs)[i]? = if i ∈ vs then σ[i]?.map (fun _ => none) else σ[i]?
  | [], i => by simp [wipe]
  | v :: vs, i => by
    unfold wipe
    by_cases h : v = i
    · subst h
      by_cases hl : v < (wipe σ vs).length
      · rw [List.getElem?_set_self hl, if_pos List.mem_cons_self]
        rw [wipe_length] at hl
        rw [List.getElem?_eq_getElem hl] <;> rfl
      · rw [List.getElem?_eq_none (by simpa using hl), if_pos List.mem_cons_self]
        rw [wipe_length] at hl
        rw [List.getElem?_eq_none (by omega)] <;> rfl
    · rw [List.getElem?_set_ne h, wipe_get σ vs i]
      by_cases hm : i ∈ vs
      · rw [if_pos hm, if_pos (List.mem_cons_of_mem _ hm)]
      · rw [if_neg hm, if_neg (fun z => (List.mem_cons.mp z).elim (fun e => h e.symm) hm)]
theorem wipe_set (σ : L2.St) (vs : List Nat) {i : Nat} {x : Option V} (h : i ∈ vs) : wipe (σ.set i x) vs = wipe σ vs := by
  apply List.ext_getElem?
  intro j
  rw [wipe_get, wipe_get]
  by_cases e : i = j
  · subst e
    rw [if_pos h, if_pos h]
    by_cases hl : i < σ.length
    · rw [List.getElem?_set_self hl, List.getElem?_eq_getElem hl] <;> rfl
    · rw [List.getElem?_eq_none (by simpa using hl), List.getElem?_eq_none (by omega)]
  · rw [List.getElem?_set_ne e]
theorem wipe_wipe (σ : L2.St) (vs : List Nat) : wipe (wipe σ vs) vs = wipe σ vs := by
  apply List.ext_getElem?
  intro j
  rw [wipe_get, wipe_get]
  by_cases h : j ∈ vs
  · rw [if_pos h, if_pos h]
    cases σ[j]? <;> rfl
  · rw [if_neg h, if_neg h]
section
variable {F : Fx} {E : XK} {X : Cx} {fr : Bool} {pos : Pos} {vs : List Nat}
def rgName (i : Nat) : RG := fun d ρ => some (ρ.set i (.val d))
theorem dg_name (i : Nat) {x : Str} (hN : X.N.Nodup) (hv : i ∈ vs := by decide) (hi : X.N[i]? = some x := by rfl) (hx : Loc X.env.scope x := by first | exact Or.inl rfl | exact Or.inr rfl) (hf : X.fn x = true ∨ X.env.scope.names.lookup x = some .local := by first | exact .inl rfl | exact .inr rfl | assumption) :
    DG F X (.Name x pos) (gName i) (rgName i) vs := ⟨pg_name hN hi hx hf, ⟨fun {H0 Z O σ H ρ v d ρ' Q} hh hd e k => by
  cases e
  refine k _ _ (hh.set i hd) (hp_less fun a => mem_set_none) (wipe_set σ vs hv) fun no => ⟨fun a q => ?_, fun j hj a q => ?_⟩
  · obtain ⟨j, e⟩ := List.mem_iff_getElem?.mp q
    have n : i ≠ j := fun z => by subst z; exact no i hv a e
    exact List.mem_of_getElem? (i := j) (by rw [List.getElem?_set_ne n]; exact e)
  · rcases get_set q with ⟨_, z⟩ | ⟨_, z⟩
    · cases z
    · exact no j hj a z⟩⟩
def rgNil : RGs := fun ds ρ => match ds with
  | [] => some ρ
  | _ => none
def rgCons (r : RG) (rs : RGs) : RGs := fun ds ρ => match ds with
  | d :: ds => (r d ρ).bind fun ρ1 => rs ds ρ1
  | [] => none
theorem dgs_nil : DGs F X [] gNil rgNil vs := ⟨pgs_nil, ⟨fun {H0 Z O σ H ρ xs ds ρ' Q} hh hd e k => by
  cases hd with
  | nil => cases e; exact ⟨rfl, k _ _ hh (Same.refl _) rfl fun no => ⟨fun _ q => q, no⟩⟩
  | cons _ _ => cases e⟩⟩
theorem dgs_cons {e : Expr} {es : List Expr} {t : TG} {u : TGs} {r : RG} {rs : RGs} (h : DG F X e t r vs) (h2 : DGs F X es u rs vs) (hs : (assignEach (e :: es) X.env).map (·.2) = assign e X.env :: (assignEach es X.env).map (·.2) := by rfl) : DGs F X (e :: es) (gCons t u) (rgCons r rs) vs :=
  ⟨pgs_cons h.run h2.run hs, ⟨fun {H0 Z O σ H ρ xs ds ρ' Q} hh hd e k => by
    cases hd with
    | nil => cases e
    | @cons v vs' d ds' h1 h3 =>
      obtain ⟨ρ1, e1, e2⟩ := Option.bind_eq_some_iff.mp e
      refine ⟨v, vs', rfl, h.snd.go hh h1 e1 fun O1 σ1 hh1 s1 w1 n1 => ?_⟩
      exact h2.snd.go hh1 (dps_mono s1 h3) e2 fun O2 σ2 hh2 s2 w2 n2 => k O2 σ2 hh2 (s1.trans s2) (w2.trans w1) fun no => ⟨fun a q => (n2 (n1 no).2).1 a ((n1 no).1 a q), (n2 (n1 no).2).2⟩⟩⟩
def rgTup (n : Nat) (rs : RGs) : RG := fun d ρ => match d with
  | .tuple ds => if ds.length = n then rs ds ρ else none
  | _ => none
theorem dg_tup {es : List Expr} {k : Nat} {t : TGs} {rs : RGs} {n : Nat} (hc : X.calm = true) (h : DGs F X es t rs vs) (hn : (assignEach es X.env).length = n := by rfl) (hst : (assignEach es X.env).findIdx? (·.1) = none := by rfl) :
    DG F X (.Tuple es k pos) (gTup X.K n t) (rgTup n rs) vs := ⟨pg_tup hc h.run hn hst, ⟨fun {H0 Z O σ H ρ v d ρ' Q} hh hd e k => by
  unfold rgTup at e
  split at e
  · split at e
    · rename_i ds c
      cases hd with
      | @tup a xs _ h1 h2 => exact ⟨a, xs, rfl, sqt_mono hp_le h1, by rw [FitAll.len h2]; exact c, h.snd.go hh h2 e k⟩
    · cases e
  · cases e⟩⟩
def sAsg (r : RE) (rg : RG) : RS := fun ρ => toS (r ρ) fun d => (rg d ρ).map .nx
theorem ds_asg {tg e : Expr} {t : TE} {g : TG} {r : RE} {rg : RG} (h : DE F E X true e t r) (hg : DG F X tg g rg vs) (hs : swapsWithSole [tg] e pos.line X.env = pure false := by rfl) (hw : swappedStores [tg] e X.env = pure none := by rfl)
    (h1 : (assignEach [tg] X.env).map (·.2) = [assign tg X.env] := by rfl) : DS F E X (.Assign [tg] e pos) (tAsg t g) (sAsg r rg) :=
  ⟨ps_asg h.run hg.run hs hw h1, ⟨fun {H0 Z O σ H ρ o D} hh e a => h.snd.st hh e a fun d v H1 e1 x1 hh1 d1 => by
    obtain ⟨ρ1, e2, rfl⟩ := Option.map_eq_some_iff.mp e1
    exact hg.snd.go hh1 d1 e2 fun O2 σ2 hh2 _ _ _ => a _ _ _ hh2⟩⟩
/-- a, b = x, y -/
def sPar (i j : Nat) (rs : RA) : RS := fun ρ => toS (rs ρ) fun ds => match ds with
  | [a, b] => some (.nx ((ρ.set i (.val a)).set j (.val b)))
  | _ => none
theorem ds_par (i j : Nat) {x y : Str} {a b : Expr} {ta : TA} {rs : RA} {px py pt : Pos} {kt k2 pt2} (hc : X.calm = true) (hN : X.N.Nodup) (h : DA F E X true [a, b] ta rs) (hij : i ≠ j := by decide) (hi : X.N[i]? = some x := by rfl) (hj : X.N[j]? = some y := by rfl)
    (hx : X.env.scope.names.lookup x = some .local := by rfl) (hy : X.env.scope.names.lookup y = some .local := by rfl)
    (hw : swappedStores [.Tuple [.Name x px, .Name y py] kt pt] (.Tuple [a, b] k2 pt2) X.env = pure (some [x, y]) := by rfl)
    (hs : swapsWithSole [.Tuple [.Name x px, .Name y py] kt pt] (.Tuple [a, b] k2 pt2) pos.line X.env = pure false := by rfl) :
    DS F E X (.Assign [.Tuple [.Name x px, .Name y py] kt pt] (.Tuple [a, b] k2 pt2) pos) (tPar i j ta) (sPar i j rs) :=
  ⟨ps_par hc hN hi hj hij hx hy h.run hw hs, ⟨fun {H0 Z O σ H ρ o D} hh e a => h.snd.st hh e a fun ds vs H1 e1 x1 hh1 d1 => by
    split at e1
    · rename_i d e
      cases e1
      cases d1 with
      | @cons v _ _ _ q1 q2 =>
        cases q2 with
        | @cons w _ _ _ q3 q4 =>
          cases q4
          exact ⟨v, w, rfl, a _ _ _ ((hh1.set i q1).set j (dp_mono (hp_less fun a => mem_set_none) q3))⟩
    · cases e1⟩⟩

/-! ### what is walked -/
structure ItOk (K : PySem.W.Frag) (J : It) (Z : Hp) (ds : List D) : Prop where
  go : ∀ i H, Same Z H → i < ds.length → J.go i H
  stop : ∀ H, Same Z H → J.stop ds.length H
  yld : ∀ i H x H', Same Z H → J.yld i H x H' → ∀ d, ds[i]? = some d → Same H H' ∧ ∀ (F : Fx) (O : List (Option Addr)), Same Z (hp F O true H) → (∀ p, H p = none → ¬ (F.bad p ∨ (true = true ∧ some p ∈ O))) → Fit K (hp F O true H') x d
structure SI (K : PySem.W.Frag) (F : Fx) (E : XK) (w : TI) (r : RA) : Prop where
  go : ∀ {H0 Z O σ H ρ o} {Q : It → Hp → Prop}, Holds K F H0 Z O σ H ρ → r ρ = some o → Err F E H o → (∀ ds J H', o = .ok ds → Ext F H H' → ItOk K J (hp F O true H') ds → Q J H') → w σ H Q
structure DI (F : Fx) (E : XK) (X : Cx) (tg iter : Expr) (w : TI) (r : RA) : Prop where
  run : PI X tg iter w
  snd : SI X.K F E w r
def forL (rg : RG) (rb : RS) : List D → En → Option Out
  | [], ρ => some (.nx ρ)
  | d :: ds, ρ => match rg d ρ with
    | none => none
    | some ρ1 => match rb ρ1 with
      | some (.nx ρ2) => forL rg rb ds ρ2
      | some (.ct ρ2) => forL rg rb ds ρ2
      | some (.bk ρ2) => some (.nx ρ2)
      | some (.rt d) => some (.rt d)
      | some (.ex c) => some (.ex c)
      | none => none
def sFor (ri : RA) (rg : RG) (rb : RS) : RS := fun ρ => toS (ri ρ) fun ds => forL rg rb ds ρ
theorem ss_for {K : PySem.W.Frag} {wi : TI} {g : TG} {tb : TS} {ri : RA} {rg : RG} {rb : RS} (hi : SI K F E wi ri) (hg : SG K F g rg vs) (hb : SS K F E tb rb) : SS K F E (tFor wi g tb) (sFor ri rg rb) := ⟨fun {H0 Z O σ H ρ o D} hh e a => by
  rcases toS_cases e with ⟨ds, e1, e2⟩ | ⟨c, e1, e2⟩
  · refine hi.go hh e1 Err.ok fun ds' J H1 q x1 it => ?_
    cases q
    have hh1 := (hh.go x1).zed
    have zz : Same Z (hp F O true H1) := (hh.go x1).frz
    refine ⟨fun i m σ' H' => m = ds.length - i ∧ i ≤ ds.length ∧ ∃ O' ρ', Holds K F H0 (hp F O true H1) O' σ' H' ρ' ∧ forL rg rb (ds.drop i) ρ' = some o, ⟨ds.length, rfl, Nat.zero_le _, O, ρ, hh1, by rw [List.drop_zero]; exact e2⟩, ?_⟩
    rintro i m σ' H' ⟨rfl, hle, O', ρ', h', f'⟩
    have sz : Same (hp F O true H1) H' := h'.frz.trans hp_le
    by_cases hlt : i < ds.length
    · rw [List.drop_eq_getElem_cons hlt] at f'
      refine .inr ⟨it.go i H' sz hlt, fun σ2 H2 => ∃ O2 ρ2, Holds K F H0 (hp F O true H1) O2 σ2 H2 ρ2 ∧ forL rg rb (ds.drop (i + 1)) ρ2 = some o, fun σ2 H2 p => ⟨ds.length - (i + 1), by omega, rfl, hlt, p⟩, fun x H2 y => ?_⟩
      obtain ⟨s2, dd⟩ := it.yld i H' x H2 sz y ds[i] (List.getElem?_eq_getElem hlt)
      have d2 := dd F O' h'.frz fun p n => h'.fresh n
      have h2 := h'.go (Ext.of s2)
      unfold forL at f'
      cases c1 : rg ds[i] ρ' with
      | none => rw [c1] at f'; cases f'
      | some ρ1 =>
        rw [c1] at f'
        refine hg.go h2 d2 c1 fun O3 σ3 h3 _ _ _ => ?_
        cases c2 : rb ρ1 with
        | none => simp only [c2] at f'; cases f'
        | some o1 =>
          simp only [c2] at f'
          refine hb.go h3 c2 ?_
          cases o1 with
          | nx ρ2 => exact fun O4 σ4 H4 h4 => ⟨O4, ρ2, h4, f'⟩
          | ct ρ2 => exact fun O4 σ4 H4 h4 => ⟨O4, ρ2, h4, f'⟩
          | bk ρ2 => cases f'; exact fun O4 σ4 H4 h4 => a O4 σ4 H4 (h4.zof zz)
          | rt d => cases f'; exact a
          | ex c => cases f'; exact a
    · have ei : i = ds.length := by omega
      subst ei
      rw [List.drop_length] at f'
      cases f'
      exact .inl ⟨it.stop H' sz, a O' σ' H' (h'.zof zz)⟩
  · subst e2
    exact hi.go hh e1 (aft_err hh a) fun d v H' q => nomatch q⟩
theorem ds_for {tg iter : Expr} {body : List Stmt} {wi : TI} {g : TG} {tb : TS} {ri : RA} {rg : RG} {rb : RS} (hp : PassesOwn (model X.prog X.w) X.A X.env X.xe) (hc : X.calm = true) (hi : DI F E X tg iter wi ri) (hg : DG F X tg g rg vs) (hb : DSs F E X body tb rb)
    (hs : ∀ x, foldedSetIterable iter X.env x = pure x := by intro _; rfl) : DS F E X (.For tg iter body [] pos) (tFor wi g tb) (sFor ri rg rb) :=
  ⟨ps_for hp hc hi.run hg.run hb.run hs, ss_for hi.snd hg.snd hb.snd⟩
/-- a list, a tuple or a text -/
def itemsD : D → Option (List D)
  | .list ds => some ds
  | .tuple ds => some ds
  | .str x => some (x.cps.toList.map fun c => .str ⟨#[c]⟩)
  | .dict kvs => some (kvs.map (·.1))
  | _ => none
def rSeq (r : RE) : RA := fun ρ => bnd (r ρ) fun d => okO (itemsD d)
def iSeq (K : PySem.W.Frag) (te : TE) : TI := fun σ H R => te σ H fun v H1 => (∃ a, v = .ref a ∧ (∃ xs, SqL K H1 a xs) ∧ R (Itl K a) H1) ∨ (∃ a, v = .ref a ∧ (∃ xs, SqT K H1 a xs) ∧ R (Itt K a) H1) ∨ ∃ x, v = .str x ∧ R (Its x) H1
theorem pi_seq {tg e : Expr} {te : TE} (he : PE X e te) : PI X tg e (iSeq X.K te) := by
  refine ⟨fun pins s σ H R I h => ?_⟩
  refine thn (he.run pins s σ H _ I h) fun v s1 ⟨x, H1, I1, r1, q1⟩ => ?_
  rcases q1 with ⟨a, e, hq, q⟩ | ⟨a, e, hq, q⟩ | ⟨z, e, q⟩
  · subst e
    cases r1
    obtain ⟨xs, hq⟩ := hq
    obtain ⟨its, rv, p, hz⟩ := I1.list hq
    refine wpAny_pyIter_list p.isList ?_
    refine ⟨s1.heap.objs.size, [s1.heap.objs.size], _, _, H1, rfl, I1.kept (t' := s1.toks) fun b o e => Heap.get?_push_of_some _ e, turn_list a _, ⟨_, Heap.get?_push_size _ rfl, rfl, rfl⟩, fun b hb => ?_, q⟩
    have e : b = s1.heap.objs.size := by simpa using hb
    subst e
    exact I1.fpOk (Nat.le_refl _) (I1.hok.fresh (Nat.le_refl _))
  · subst e
    cases r1
    obtain ⟨xs, hq⟩ := hq
    obtain ⟨its, rv, p, hz⟩ := I1.tuple hq
    refine wpAny_pyIter_tuple (show s1.heap.IsTuple a its.toArray from p) ?_
    refine ⟨s1.heap.objs.size, [s1.heap.objs.size], _, _, H1, rfl, I1.kept (t' := s1.toks) fun b o e => Heap.get?_push_of_some _ e, turn_tuple a _, ⟨_, Heap.get?_push_size _ rfl, rfl, rfl⟩, fun b hb => ?_, q⟩
    have e : b = s1.heap.objs.size := by simpa using hb
    subst e
    exact I1.fpOk (Nat.le_refl _) (I1.hok.fresh (Nat.le_refl _))
  · subst e
    obtain ⟨t, rfl⟩ := r1
    cases ha : z.cps.all (· < 128)
    · exact wpAny_pyIter_wide ha (pi_one (tk := s1.toks) I1 _ (turn_str _ z t "str_iterator" (.inr rfl)) ⟨_, Heap.get?_push_size _ rfl, rfl, rfl⟩ q)
    · exact wpAny_pyIter_ascii ha (pi_one (tk := s1.toks) I1 _ (turn_str _ z t "str_ascii_iterator" (.inl rfl)) ⟨_, Heap.get?_push_size _ rfl, rfl, rfl⟩ q)
theorem FitAll.at {K : PySem.W.Frag} {H : Hp} : ∀ {vs : List V} {ds : List DL.D} {i : Nat} {v : V} {d : DL.D}, FitAll K H vs ds → vs[i]? = some v → ds[i]? = some d → Fit K H v d
  | _, _, _, _, _, .nil, e, _ => by simp at e
  | _, _, 0, _, _, .cons h _, e, q => by simp at e q; subst e q; exact h
  | _, _, i + 1, v, d, .cons _ t, e, q => FitAll.at (i := i) t (by simpa using e) (by simpa using q)
theorem it_list {K : PySem.W.Frag} {Z : Hp} {a : Addr} {xs : List V} {ds : List DL.D} (h : Rd Z a (.lst xs)) (hd : FitAll K Z xs ds) : ItOk K (Itl K a) Z ds where
  go := fun i H s hi => ⟨xs, xs[i]'(by rw [FitAll.len hd]; exact hi), .inl (rd_mono s h), List.getElem?_eq_getElem _⟩
  stop := fun H s => ⟨xs, .inl (rd_mono s h), by rw [FitAll.len hd]; exact Nat.le_refl _⟩
  yld := fun i H x H' s y d hi => by
    obtain ⟨rfl, y⟩ := y
    exact ⟨Same.refl _, fun F O z _ => dp_mono z (FitAll.at hd (y xs (.inl (rd_mono s h))) hi)⟩
theorem it_ro {K : PySem.W.Frag} {Z : Hp} {a : Addr} {xs : List V} {ds : List DL.D} (h : SqL K Z a xs) (hd : FitAll K Z xs ds) : ItOk K (Itl K a) Z ds where
  go := fun i H s hi => ⟨xs, xs[i]'(by rw [FitAll.len hd]; exact hi), s.seq h, List.getElem?_eq_getElem _⟩
  stop := fun H s => ⟨xs, s.seq h, by rw [FitAll.len hd]; exact Nat.le_refl _⟩
  yld := fun i H x H' s y d hi => by
    obtain ⟨rfl, y⟩ := y
    exact ⟨Same.refl _, fun F O z _ => dp_mono z (FitAll.at hd (y xs (s.seq h)) hi)⟩
theorem ro_items (ds : List DL.D) : (ds.map fun d => (d, d)).map (·.1) = ds := by
  rw [List.map_map]
  exact List.map_id ds
theorem it_tup {K : PySem.W.Frag} {Z : Hp} {a : Addr} {xs : List V} {ds : List DL.D} (h : SqT K Z a xs) (hd : FitAll K Z xs ds) : ItOk K (Itt K a) Z ds where
  go := fun i H s hi => ⟨xs, xs[i]'(by rw [FitAll.len hd]; exact hi), sqt_mono s h, List.getElem?_eq_getElem _⟩
  stop := fun H s => ⟨xs, sqt_mono s h, by rw [FitAll.len hd]; exact Nat.le_refl _⟩
  yld := fun i H x H' s y d hi => by
    obtain ⟨rfl, y⟩ := y
    exact ⟨Same.refl _, fun F O z _ => dp_mono z (FitAll.at hd (y xs (sqt_mono s h)) hi)⟩
theorem it_str {K : PySem.W.Frag} {Z : Hp} {x : Str} : ItOk K (Its x) Z (x.cps.toList.map fun c => .str ⟨#[c]⟩) where
  go := fun i H s hi => by
    rw [List.length_map] at hi
    exact hi
  stop := fun H s => by
    rw [List.length_map]
    exact Nat.le_refl _
  yld := fun i H v H' s y d hi => by
    obtain ⟨rfl, c, e, rfl⟩ := y
    rw [List.getElem?_map, Array.getElem?_toList, e] at hi
    cases hi
    exact ⟨Same.refl _, fun F O z _ => .str _⟩
def rgLen (lo : Int) (n : Nat) : List DL.D := (List.range n).map fun (i : Nat) => .int (lo + i)
theorem it_range {K : PySem.W.Frag} {Z : Hp} {lo : Int} {n : Nat} : ItOk K (Itr lo n) Z (rgLen lo n) where
  go := fun i H s hi => by
    unfold rgLen at hi
    rw [List.length_map, List.length_range] at hi
    exact hi
  stop := fun H s => by
    unfold rgLen
    rw [List.length_map, List.length_range]
    exact Nat.le_refl _
  yld := fun i H v H' s y d hi => by
    obtain ⟨rfl, rfl⟩ := y
    unfold rgLen at hi
    obtain ⟨k, e1, e2⟩ := List.getElem?_map .. ▸ hi |> fun z => Option.map_eq_some_iff.mp z
    obtain ⟨e3, e4⟩ := List.getElem?_eq_some_iff.mp e1
    rw [List.getElem_range] at e4
    subst e4 e2
    exact ⟨Same.refl _, fun F O z _ => .int _⟩
theorem di_seq {tg e : Expr} {te : TE} {r : RE} (h : DE F E X true e te r) : DI F E X tg e (iSeq X.K te) (rSeq r) := ⟨pi_seq h.run, ⟨fun {H0 Z O σ H ρ o Q} hh e er k => h.snd.bnd hh e er fun d v H1 e1 x1 hh1 d1 => by
  obtain ⟨ds, e2, rfl⟩ := okO_eq e1
  cases d1 with
  | lst a b => cases e2; exact .inl ⟨_, rfl, ⟨_, .inl (rd_mono hp_le a)⟩, k _ _ H1 rfl x1 (it_list a b)⟩
  | tup a b => cases e2; exact .inr (.inl ⟨_, rfl, ⟨_, sqt_mono hp_le a⟩, k _ _ H1 rfl x1 (it_tup a b)⟩)
  | str x => cases e2; exact .inr (.inr ⟨_, rfl, k _ _ H1 rfl x1 it_str⟩)
  | @ro _ _ ds0 a b =>
    have e3 : some ((ds0.map fun d => (d, d)).map (·.1)) = some ds := e2
    rw [ro_items] at e3
    cases e3
    exact .inl ⟨_, rfl, ⟨_, hp_le.seq a⟩, k _ _ H1 rfl x1 (it_ro a b)⟩
  | _ => cases e2⟩⟩
def range1D : List DL.D → Option (List DL.D)
  | [.int j] => if -(2 ^ 62) ≤ j ∧ j < 2 ^ 62 then some (rgLen 0 j.toNat) else none
  | _ => none
def range2D : List DL.D → Option (List DL.D)
  | [.int i, .int j] => if -(2 ^ 62) ≤ i ∧ i < 2 ^ 62 ∧ -(2 ^ 62) ≤ j ∧ j < 2 ^ 62 then some (rgLen i (j - i).toNat) else none
  | _ => none
def rRange1 (rs : RA) : RA := fun ρ => bnd (rs ρ) fun ds => okO (range1D ds)
def rRange2 (rs : RA) : RA := fun ρ => bnd (rs ρ) fun ds => okO (range2D ds)
theorem di_range1 {tg a : Expr} {p : Pos} {ta : TA} {rs : RA} {fs : Bool} (hm : X.mg "range" = none) (ha : DA F E X fs [a] ta rs) (hg : Gl X "range" := by rfl) (hs : starEach [a] X.env = [(false, eval a X.env)] := by rfl) :
    DI F E X tg (.Call (.Name "range" p) [a] [] pos) (iRng1 ta) (rRange1 rs) := ⟨pi_range1 hg hm ha.run hs, ⟨fun {H0 Z O σ H ρ o Q} hh e er k => ha.snd.bnd hh e er fun ds vs H1 e1 x1 hh1 d1 => by
  obtain ⟨es, e2, rfl⟩ := okO_eq e1
  unfold range1D at e2
  split at e2
  · split at e2
    · rename_i j c
      cases e2
      cases d1 with
      | cons h1 h2 =>
        cases h1
        cases h2
        exact ⟨j, rfl, c.1, c.2, k _ _ H1 rfl x1 it_range⟩
    · cases e2
  · cases e2⟩⟩
theorem di_range2 {tg a b : Expr} {p : Pos} {ta : TA} {rs : RA} {fs : Bool} (hm : X.mg "range" = none) (ha : DA F E X fs [a, b] ta rs) (hg : Gl X "range" := by rfl) (hs : starEach [a, b] X.env = [(false, eval a X.env), (false, eval b X.env)] := by rfl) (hs2 : starEach [b] X.env = [(false, eval b X.env)] := by rfl) :
    DI F E X tg (.Call (.Name "range" p) [a, b] [] pos) (iRng2 ta) (rRange2 rs) := ⟨pi_range2 hg hm ha.run hs hs2, ⟨fun {H0 Z O σ H ρ o Q} hh e er k => ha.snd.bnd hh e er fun ds vs H1 e1 x1 hh1 d1 => by
  obtain ⟨es, e2, rfl⟩ := okO_eq e1
  unfold range2D at e2
  split at e2
  · split at e2
    · rename_i i j c
      cases e2
      cases d1 with
      | cons h1 h2 =>
        cases h1
        cases h2 with
        | cons h3 h4 =>
          cases h3
          cases h4
          exact ⟨i, j, rfl, c, k _ _ H1 rfl x1 it_range⟩
    · cases e2
  · cases e2⟩⟩
end

/-! ### enumerate of a tuple or list -/
section
open PyProof.Rows
set_option maxHeartbeats 1000000 in
theorem meets_enumerate_newT {v : Value} {o : Obj} {H : Heap → Prop} (B : Begins v o H) :
    Meets (Builtin.«enumerate.__new__» ⟨[.type "enumerate", v], []⟩) (fun _ R s => H s.heap ∧
      R (.ok (.ret (.ref (s.heap.push o).objs.size))) { s with heap := (s.heap.push o).push { cls := .type "enumerate", data := .fields #[.none, .bool false, .ref s.heap.objs.size, rawInt 0, .none, .none] } }) :=
  .of_wp fun prog w A R s h => by
    obtain ⟨hp, g, d, tk, os⟩ := s; obtain ⟨h1, h⟩ := h
    have hsub := sub_enumerate
    have q1 : ∀ {A' : Around} {E : Value → Shared → Prop} {Q : Value → Shared → Prop}, Q (.ref hp.objs.size) ⟨hp.push o, g, d, tk, os⟩ → wpAny (model prog w) A' (pyIter v) Q E ⟨hp, g, d, tk, os⟩ :=
      fun q => B.iter prog w _ _ ⟨hp, g, d, tk, os⟩ _ h1 q
    wp_walk using q1
    refine wpAny_stack_any fun st => wpAny_pure ?_
    split
    · rename_i c _ _ _ _ _
      cases (c == Value.type "enumerate")
      · wp_walk using q1
        exact ⟨_, rfl, h⟩
      · wp_walk using q1
        exact ⟨_, rfl, h⟩
    · wp_walk using q1
      exact ⟨_, rfl, h⟩
theorem call_enumerate_tup {prog : Program} {w : World} {A : Around} {E : Value → Shared → Prop} {s : Shared} {l : Addr} {items : Array Value} {Q : Value → Shared → Prop} (hL : s.heap.IsTuple l items)
    (h : ∀ h', IsEnum h' (s.heap.objs.size + 1) s.heap.objs.size 0 .none → h'.IsTupleIter s.heap.objs.size l 0 → h'.objs.size = s.heap.objs.size + 2 →
      (∀ b o, s.heap.get? b = some o → h'.get? b = some o) → Q (.ref (s.heap.objs.size + 1)) { s with heap := h' }) :
    wpAny (model prog w) A (call (.type "enumerate") [.ref l]) Q E s := by
  refine callType_new F.called_enumerate (by decide) (F.typeCall_enumerate_1 _) (F.newCall_enumerate_1 _) (fun obj => F.args_object_init_2 obj _) F.entry_enumerate_new
    (meets_enumerate_newT (begins_tuple l items)) ⟨hL, ?_⟩
  have hz : (s.heap.push { cls := .type "tuple_iterator", data := .fields #[.ref l, .int 0 0] }).objs.size = s.heap.objs.size + 1 := Heap.size_push ..
  show _ ∧ _
  rw [hz]
  have he : IsEnum ((s.heap.push { cls := .type "tuple_iterator", data := .fields #[.ref l, .int 0 0] }).push
      { cls := .type "enumerate", data := .fields #[.none, .bool false, .ref s.heap.objs.size, rawInt 0, .none, .none] }) (s.heap.objs.size + 1) s.heap.objs.size 0 .none := by
    have := Heap.get?_push_size (s.heap.push { cls := .type "tuple_iterator", data := .fields #[.ref l, .int 0 0] })
      (o := { cls := .type "enumerate", data := .fields #[.none, .bool false, .ref s.heap.objs.size, rawInt 0, .none, .none] }) rfl
    rw [hz] at this; exact this
  refine ⟨⟨_, he, rfl⟩, h _ he ⟨_, Heap.get?_push_of_some _ (Heap.get?_push_size _ rfl), rfl, rfl⟩ (by rw [Heap.size_push, hz]) fun b o x => Heap.get?_push_of_some _ (Heap.get?_push_of_some _ x)⟩
def IteT (K : PySem.W.Frag) (a : Addr) : It :=
  ⟨fun i H => ∃ (xs : List V) (x : V), SqT K H a xs ∧ xs[i]? = some x, fun i H v H' => ∃ T x, v = .ref T ∧ H T = none ∧ H' = upd H T (.tup [.int (i : Nat), x]) ∧ ∀ xs, SqT K H a xs → xs[i]? = some x, fun i H => ∃ xs : List V, SqT K H a xs ∧ xs.length = i⟩
theorem turn_enumT {P : Program} {w : World} {K : PySem.W.Frag} {elts : List Expr} {kk : Nat} {tpos : Pos} (a e it : Addr) :
    Turn P w K (.Tuple elts kk tpos) (IteT K a) [e, it] e (fun i h => (∃ old, IsEnum h e it ((i : Nat) : Int) old) ∧ h.IsTupleIter it a i ∧ e ≠ it) where
  mem := by simp
  obj := fun i h st b hb => by
    obtain ⟨⟨old, he⟩, ⟨o, ho, hc, hd⟩, _⟩ := st
    have e' : b = e ∨ b = it := by simpa using hb
    rcases e' with z | z
    · rw [z]; exact ⟨_, he, fun v q => nomatch q⟩
    · rw [z]; exact ⟨o, ho, fun v q => by rw [hd] at q; cases q⟩
  keep := fun i h h' st k => let ⟨⟨old, he⟩, hi, hne⟩ := st; ⟨⟨old, k e (by simp) _ he⟩, hi.at fun o q => k it (by simp) o q, hne⟩
  item := by
    intro X hP hw hK hc i pins s σ H E I hf st hg
    subst hP hw hK
    obtain ⟨⟨old, he⟩, hit, hne⟩ := st
    obtain ⟨xs, x, hq, hx⟩ := hg
    obtain ⟨its, rv, p, hz⟩ := I.tuple hq
    have p' : s.heap.IsTuple a its.toArray := p
    obtain ⟨u, hu, ru⟩ := rv.get hx
    have hel : e < s.heap.objs.size := Heap.lt_size he
    have hil : it < s.heap.objs.size := by obtain ⟨_, q, _⟩ := hit; exact Heap.lt_size q
    have hai : a ≠ it := fun z => by
      obtain ⟨o, q, c, _⟩ := hit
      obtain ⟨o2, q2, c2, _⟩ := p'
      rw [z, q] at q2
      cases q2
      rw [c] at c2
      exact absurd (Value.type.inj c2) (by decide)
    have hae : e ≠ a := fun z => by
      obtain ⟨o2, q2, c2, _⟩ := p'
      rw [← z, he] at q2
      cases q2
      exact absurd (Value.type.inj c2) (by decide)
    have hh : X.A.in1.handled = none := I.ok.hd hc
    have hi : i < its.toArray.size := by
      rw [List.size_toArray]
      exact (List.getElem?_eq_some_iff.mp hu).1
    refine wpAny_pyNext_enum_itemD (Draws.tuple hh it a hai its.toArray) he ⟨hit, p'⟩ hi hne (by simp [hne, hae]) fun u' h' tk hu' ho hit' hT hsz hk => ?_
    have eu : u' = u := by
      have : its.toArray[i]? = some u := by simpa using hu
      rw [this] at hu'
      exact (Option.some.inj hu').symm
    subst eu
    refine ⟨_, rfl, wpAny_letOwnedTupleGo_enum (s := { s with heap := h', toks := tk + 1 }) ho fun h'' he' sb => ?_⟩
    have hT2 : h''.get? s.heap.objs.size = some { cls := .type "tuple", data := .seq #[.int i tk, u'] } := (sb.2 _ (Nat.ne_of_gt hel)).trans hT
    have new : ObjOk X.prog X.w (upd H s.heap.objs.size (.tup [.int (i : Nat), x])) h'' s.heap.objs.size (.tup [.int (i : Nat), x]) :=
      ⟨by show 2 ≤ sizeLine; decide, [.int i tk, u'], .cons ⟨_, rfl⟩ (.cons ru .nil), ⟨_, hT2, rfl, _, rfl⟩⟩
    have I1 : Inv X pins σ (upd H s.heap.objs.size (.tup [.int (i : Nat), x])) { s with heap := h'', toks := tk + 1 } :=
      I.turnedNew (ch := [e, it]) (fun b ob hb q => (sb.2 b (fun z => hb (by simp [z]))).trans (hk b ob (fun z => hb (by simp [z])) (fun z => hb (by simp [z])) q)) hf (Nat.le_refl _) new
    refine ⟨.ref s.heap.objs.size, _, I1, rfl, ⟨_, x, rfl, I.hok.fresh (Nat.le_refl _), rfl, fun ys hy => by rw [I.tuple_inj hy hq]; exact hx⟩, ⟨⟨u', ?_⟩, hit'.1.at fun o q => (sb.2 it (Ne.symm hne)).trans q, hne⟩, fun b hb => ?_⟩
    · have e1 : ((i + 1 : Nat) : Int) = (i : Int) + 1 := by omega
      rw [e1]; exact he'
    · have hb' : b < s.heap.objs.size := by
        have e' : b = e ∨ b = it := by simpa using hb
        rcases e' with z | z
        · rw [z]; exact hel
        · rw [z]; exact hil
      rw [upd_ne (Nat.ne_of_lt hb')]
      exact (hf b hb).1
  done := by
    intro X hP hw hK hc i pins s σ H E I hf st hg
    subst hP hw hK
    obtain ⟨⟨old, he⟩, hit, hne⟩ := st
    obtain ⟨xs, hq, hx⟩ := hg
    obtain ⟨its, rv, p, hz⟩ := I.tuple hq
    have p' : s.heap.IsTuple a its.toArray := p
    obtain ⟨f0, f1, f2, f3, f4, f5⟩ := hf it (by simp)
    have hl := rv.length
    have hai : a ≠ it := fun z => by
      obtain ⟨o, q, c, _⟩ := hit
      obtain ⟨o2, q2, c2, _⟩ := p'
      rw [z, q] at q2
      cases q2
      rw [c] at c2
      exact absurd (Value.type.inj c2) (by decide)
    have hh : X.A.in1.handled = none := I.ok.hd hc
    have ei : its.toArray.size = i := by rw [List.size_toArray]; omega
    refine wpAny_pyNext_enum_endD (Draws.tuple hh it a hai its.toArray) he (by rw [ei]; exact ⟨hit, p'⟩) fun h' eb => ⟨rfl, I.turned (t' := s.toks) (fun b o hb q => eb b o hb q) f0 f1 f3 f4 f5⟩
  self := fun A i s Q E st h => let ⟨⟨_, he⟩, _⟩ := st; wpAny_pyIter_enum he h
def iEnumQ (K : PySem.W.Frag) (ta : TA) : TI := fun σ H R => ta σ H fun vs H1 => ∃ a, vs = [.ref a] ∧ ((∃ xs, SqL K H1 a xs ∧ R (Ite K a) H1) ∨ (∃ xs, SqT K H1 a xs ∧ R (IteT K a) H1))
theorem pi_enumQ {X : Cx} {e : Expr} {ta : TA} {p pos tpos : Pos} {elts : List Expr} {kk : Nat} (hg : Gl X "enumerate") (hm : X.mg "enumerate" = none) (ha : PA X [e] ta) (hs : starEach [e] X.env = [(false, eval e X.env)] := by rfl) :
    PI X (.Tuple elts kk tpos) (.Call (.Name "enumerate" p) [e] [] pos) (iEnumQ X.K ta) := by
  refine ⟨fun pins s σ H R I h => ?_⟩
  refine Call_ (ld_blt I hg hm boot_enumerate (PyProof.Rows.callWith_type1 (thn (ha.run pos pins s σ H _ I h) fun us s1 ⟨vs, H1, I1, r1, q1⟩ => ?_) hs rfl))
  obtain ⟨a, ex, q1⟩ := q1
  subst ex
  cases r1 with
  | cons r rr =>
    cases rr
    cases r
    have mem : ∀ b, b = s1.heap.objs.size + 1 ∨ b = s1.heap.objs.size → s1.heap.objs.size ≤ b := fun b e' => by
      rcases e' with z | z
      · rw [z]; exact Nat.le_add_right _ _
      · rw [z]; exact Nat.le_refl _
    rcases q1 with ⟨xs, hq, q⟩ | ⟨xs, hq, q⟩
    · obtain ⟨its, rv, p', hz⟩ := I1.list hq
      refine call_enumerate_list p'.isList fun h' he hit hsz hk => wpAny_pyIter_enum he ?_
      have I2 : Inv X pins σ H1 { s1 with heap := h' } := I1.kept (t' := s1.toks) hk
      refine ⟨s1.heap.objs.size + 1, [s1.heap.objs.size + 1, s1.heap.objs.size], _, _, H1, rfl, I2, turn_enum a (s1.heap.objs.size + 1) s1.heap.objs.size, ⟨⟨.none, he⟩, hit, Nat.succ_ne_self _⟩, fun b hb => ?_, q⟩
      have hle := mem b (by simpa using hb)
      exact I1.fpOk hle (I1.hok.fresh hle)
    · obtain ⟨its, rv, p', hz⟩ := I1.tuple hq
      refine call_enumerate_tup (show s1.heap.IsTuple a its.toArray from p') fun h' he hit hsz hk => wpAny_pyIter_enum he ?_
      have I2 : Inv X pins σ H1 { s1 with heap := h' } := I1.kept (t' := s1.toks) hk
      refine ⟨s1.heap.objs.size + 1, [s1.heap.objs.size + 1, s1.heap.objs.size], _, _, H1, rfl, I2, turn_enumT a (s1.heap.objs.size + 1) s1.heap.objs.size, ⟨⟨.none, he⟩, hit, Nat.succ_ne_self _⟩, fun b hb => ?_, q⟩
      have hle := mem b (by simpa using hb)
      exact I1.fpOk hle (I1.hok.fresh hle)
end
section
variable {F : Fx} {E : XK} {X : Cx} {fr : Bool} {pos : Pos} {vs : List Nat}
def enumL : Nat → List DL.D → List DL.D
  | _, [] => []
  | i, d :: ds => .tuple [.int (i : Nat), d] :: enumL (i + 1) ds
theorem enumL_len : ∀ (ds : List DL.D) (i : Nat), (enumL i ds).length = ds.length
  | [], _ => rfl
  | _ :: ds, i => congrArg (· + 1) (enumL_len ds (i + 1))
theorem enumL_get : ∀ (ds : List DL.D) (i j : Nat) (d : DL.D), (enumL i ds)[j]? = some d → ∃ e, ds[j]? = some e ∧ d = .tuple [.int ((i + j : Nat) : Int), e]
  | [], _, _, _, h => by simp [enumL] at h
  | d :: ds, i, 0, _, h => by simp [enumL] at h; exact ⟨d, rfl, h.symm⟩
  | _ :: ds, i, j + 1, d, h => by
    obtain ⟨e, q1, q2⟩ := enumL_get ds (i + 1) j d (by simpa [enumL] using h)
    exact ⟨e, by simpa using q1, by rw [q2, Nat.add_right_comm, Nat.add_assoc]⟩
def enumD : List DL.D → Option (List DL.D)
  | [.list ds] => some (enumL 0 ds)
  | [.tuple ds] => some (enumL 0 ds)
  | _ => none
def rEnum (rs : RA) : RA := fun ρ => bnd (rs ρ) fun ds => okO (enumD ds)
theorem it_pair {K : PySem.W.Frag} {Z H : Hp} {T : Addr} {i : Nat} {x : V} {e : DL.D} (n : H T = none) (F : Fx) (O : List (Option Addr)) (z : Same Z (hp F O true H)) (nb : ∀ p, H p = none → ¬ (F.bad p ∨ (true = true ∧ some p ∈ O))) (h : Fit K Z x e) :
    Fit K (hp F O true (upd H T (.tup [.int (i : Nat), x]))) (.ref T) (.tuple [.int (i : Nat), e]) := dp_newT n (nb T n) (.cons (.int _) (.cons (dp_mono z h) .nil))
theorem it_enumL {K : PySem.W.Frag} {Z : Hp} {a : Addr} {xs : List V} {ds : List DL.D} (h : Rd Z a (.lst xs)) (hd : FitAll K Z xs ds) : ItOk K (Ite K a) Z (enumL 0 ds) where
  go := fun i H s hi => ⟨xs, xs[i]'(by rw [FitAll.len hd]; rw [enumL_len] at hi; exact hi), .inl (rd_mono s h), List.getElem?_eq_getElem _⟩
  stop := fun H s => ⟨xs, .inl (rd_mono s h), by rw [enumL_len, FitAll.len hd]; exact Nat.le_refl _⟩
  yld := fun i H x H' s y d hi => by
    obtain ⟨T, x, rfl, n, rfl, y⟩ := y
    obtain ⟨e, q1, rfl⟩ := enumL_get ds 0 i d hi
    rw [Nat.zero_add]
    exact ⟨same_new n _, fun F O z nb => it_pair n F O z nb (FitAll.at hd (y xs (.inl (rd_mono s h))) q1)⟩
theorem it_enumT {K : PySem.W.Frag} {Z : Hp} {a : Addr} {xs : List V} {ds : List DL.D} (h : SqT K Z a xs) (hd : FitAll K Z xs ds) : ItOk K (IteT K a) Z (enumL 0 ds) where
  go := fun i H s hi => ⟨xs, xs[i]'(by rw [FitAll.len hd]; rw [enumL_len] at hi; exact hi), sqt_mono s h, List.getElem?_eq_getElem _⟩
  stop := fun H s => ⟨xs, sqt_mono s h, by rw [enumL_len, FitAll.len hd]⟩
  yld := fun i H x H' s y d hi => by
    obtain ⟨T, x, rfl, n, rfl, y⟩ := y
    obtain ⟨e, q1, rfl⟩ := enumL_get ds 0 i d hi
    rw [Nat.zero_add]
    exact ⟨same_new n _, fun F O z nb => it_pair n F O z nb (FitAll.at hd (y xs (sqt_mono s h)) q1)⟩
theorem di_enum {e : Expr} {ta : TA} {rs : RA} {p tpos : Pos} {elts : List Expr} {kk : Nat} (hm : X.mg "enumerate" = none) (ha : DA F E X true [e] ta rs) (hg : Gl X "enumerate" := by rfl) (hs : starEach [e] X.env = [(false, eval e X.env)] := by rfl) :
    DI F E X (.Tuple elts kk tpos) (.Call (.Name "enumerate" p) [e] [] pos) (iEnumQ X.K ta) (rEnum rs) := ⟨pi_enumQ hg hm ha.run hs, ⟨fun {H0 Z O σ H ρ o Q} hh e er k => ha.snd.bnd hh e er fun ds vs H1 e1 x1 hh1 d1 => by
  obtain ⟨es, e2, rfl⟩ := okO_eq e1
  unfold enumD at e2
  split at e2
  · cases e2
    cases d1 with
    | cons h1 h2 =>
      cases h2
      cases h1 with
      | lst a b => exact ⟨_, rfl, .inl ⟨_, .inl (rd_mono hp_le a), k _ _ H1 rfl x1 (it_enumL a b)⟩⟩
  · cases e2
    cases d1 with
    | cons h1 h2 =>
      cases h2
      cases h1 with
      | tup a b => exact ⟨_, rfl, .inr ⟨_, sqt_mono hp_le a, k _ _ H1 rfl x1 (it_enumT a b)⟩⟩
  · cases e2⟩⟩
end
end DL
set_option Elab.async false
set_option linter.all false
set_option maxRecDepth 100000
namespace DL
open PySem L2

/-! ### list comprehensions -/
def Fx.plus (F : Fx) (B : Addr → Prop) : Fx := { F with bad := fun a => F.bad a ∨ B a, sub := fun a h => .inl (F.sub a h) }
theorem ext_plus {F : Fx} {B : Addr → Prop} {H H' : Hp} : Ext (F.plus B) H H' ↔ Ext F H H' := ⟨fun e => ⟨e.keep, e.live, e.inv⟩, fun e => ⟨e.keep, e.live, e.inv⟩⟩
theorem hp_plus {F : Fx} {B : Addr → Prop} {O : List (Option Addr)} {fr : Bool} {H : Hp} : Same (hp (F.plus B) O fr H) (hp F O fr H) := fun a o h => by
  obtain ⟨n, q⟩ := hp_some.mp h
  exact hp_some.mpr ⟨fun z => n (z.elim (fun y => .inl (.inl y)) .inr), q⟩
/-- the new list at p is hidden from what is known -/
theorem Holds.plus {K : PySem.W.Frag} {F : Fx} {H0 Z : Hp} {O : List (Option Addr)} {σ : L2.St} {G H : Hp} {ρ : En} {p : Addr} (h : Holds K F H0 Z O σ G ρ) (n : G p = none) (e : Ext F G H) (hp' : H p ≠ none) :
    Holds K (F.plus (· = p)) (hp F O true G) (hp F O true G) O σ H ρ := by
  have up : Same (hp F O true G) (hp (F.plus (· = p)) O true H) := fun b o q => by
    obtain ⟨x, y⟩ := hp_some.mp q
    refine hp_some.mpr ⟨fun z => ?_, e.keep b o (fun m => x (.inl (F.sub b m))) y⟩
    rcases z with (z | z) | z
    · exact x (.inl z)
    · cases z; rw [n] at y; cases y
    · exact x (.inr z)
  refine ⟨h.len, h.olen, fun i d q => ?_, fun i d q => ?_, h.raw, fun i d q => ?_, h.inj, fun a q => ⟨?_, e.live a (h.new a q).2.1, fun z => ?_⟩, fun a q => ?_, ⟨fun a o _ q => hp_le a o (up a o q), fun a q => ?_, fun q => ?_⟩, up, h.oin, e.inv h.ok⟩
  · obtain ⟨v, x, y⟩ := h.val i d q
    exact ⟨v, x, dp_mono up y⟩
  · obtain ⟨a, vs, x, y, z, w⟩ := h.own i d q
    exact ⟨a, vs, x, y, e.keep a _ (fun m => (h.new a (List.mem_of_getElem? x)).2.2 (F.sub a m)) z, dps_mono up w⟩
  · obtain ⟨v, x, y⟩ := h.dic i d q
    exact ⟨v, x, dic_mono up y⟩
  · cases c : hp F O true G a with
    | none => rfl
    | some o => exact absurd (.inr ⟨rfl, q⟩) (hp_some.mp c).1
  · rcases z with z | z
    · exact (h.new a q).2.2 z
    · cases z; exact (h.new _ q).2.1 n
  · rcases q with q | q
    · exact e.live a (h.bex a q)
    · cases q; exact hp'
  · cases c : hp F O true G a with
    | none => exact absurd c q
    | some o => rw [hp_le a o (up a o c)]; exact fun z => nomatch z
  · exact e.inv (F.mono _ _ hp_le q)
def lcL (rg : RG) (rt : RT) (re : RE) (ρ : En) : List D → Option (List D)
  | [] => some []
  | d :: ds => match rg d ρ with
    | none => none
    | some ρ1 => match rt ρ1 with
      | some (.ok true) => match re ρ1 with
        | some (.ok y) => match lcL rg rt re ρ ds with
          | some ys => some (y :: ys)
          | none => none
        | _ => none
      | some (.ok false) => lcL rg rt re ρ ds
      | _ => none
def rLc (ri : RA) (rg : RG) (rt : RT) (re : RE) (vs : List Nat) : RE := fun ρ => bnd (ri ρ) fun ds => if ds.length ≤ 1000000 ∧ vs.all (noOwn ρ) = true then match lcL rg rt re (wipeR ρ vs) ds with
  | some es => some (.ok (.list es))
  | none => none
  else none
theorem se_lc {K : PySem.W.Frag} {F : Fx} {E : XK} {fr : Bool} {wi : TI} {g : TG} {tt : TT} {te : TE} {ri : RA} {rg : RG} {rt : RT} {re : RE} {vs : List Nat} (hi : SI K F E wi ri) (hg : ∀ B, SG K (F.plus B) g rg vs) (ht : ∀ B, ST K (F.plus B) E0 tt rt) (he : ∀ B, SE K (F.plus B) E0 fr te re) :
    SE K F E fr (tLc wi g tt te vs) (rLc ri rg rt re vs) := ⟨fun {H0 Z O σ H ρ o Q} hh e er k => by
  rcases bnd_cases e with ⟨ds, e1, e2⟩ | ⟨c, e1, e2⟩
  · by_cases cl : ds.length ≤ 1000000 ∧ vs.all (noOwn ρ) = true
    · rw [if_pos cl] at e2
      cases ce : lcL rg rt re (wipeR ρ vs) ds with
      | none => rw [ce] at e2; cases e2
      | some tot =>
        rw [ce] at e2
        cases e2
        refine hi.go hh e1 Err.ok fun ds' J H1 q x1 it => ?_
        cases q
        intro p np
        have hh1 := (hh.go x1).wipe vs cl.2
        have noo : ∀ i ∈ vs, ∀ a, O[i]? ≠ some (some a) := fun i hi a q => by
          obtain ⟨ds, w⟩ := hh.oin i a q
          have z := List.all_eq_true.mp cl.2 i hi
          unfold noOwn at z
          rw [w] at z
          cases z
        have nbp : ¬ (F.bad p ∨ (fr = true ∧ some p ∈ O)) := (hh.go x1).fresh np
        refine ⟨fun i m H' => m = ds.length - i ∧ i ≤ ds.length ∧ Ext F H1 H' ∧ ∃ acc es rest, H' p = some (.lst acc) ∧ FitAll K (hp (F.plus (· = p)) O fr H') acc es ∧ acc.length ≤ i ∧ lcL rg rt re (wipeR ρ vs) (ds.drop i) = some rest ∧ es ++ rest = tot,
          ⟨ds.length, rfl, Nat.zero_le _, ext_new np _, [], [], tot, upd_same, .nil, Nat.le_refl _, by rw [List.drop_zero]; exact ce, rfl⟩, ?_⟩
        rintro i m H' ⟨rfl, hle, x2, acc, es, rest, hp1, hd, hlen, hl, htot⟩
        have h2 := hh1.plus np x2 (by rw [hp1]; exact fun z => nomatch z)
        have sz : Same (hp F O true H1) H' := h2.frz.trans hp_le
        by_cases hlt : i < ds.length
        · rw [List.drop_eq_getElem_cons hlt] at hl
          refine .inr ⟨it.go i H' sz hlt, fun H3 => i + 1 ≤ ds.length ∧ Ext F H1 H3 ∧ ∃ acc es rest, H3 p = some (.lst acc) ∧ FitAll K (hp (F.plus (· = p)) O fr H3) acc es ∧ acc.length ≤ i + 1 ∧ lcL rg rt re (wipeR ρ vs) (ds.drop (i + 1)) = some rest ∧ es ++ rest = tot, fun H3 w => ⟨ds.length - (i + 1), by omega, rfl, w⟩, fun x H3 y => ?_⟩
          obtain ⟨s3, dd⟩ := it.yld i H' x H3 sz y ds[i] (List.getElem?_eq_getElem hlt)
          have d3 := dd (F.plus (· = p)) O h2.frz fun p n => h2.fresh n
          have x3 : Ext (F.plus (· = p)) H' H3 := Ext.of s3
          have h3 := h2.go x3
          unfold lcL at hl
          cases c1 : rg ds[i] (wipeR ρ vs) with
          | none => rw [c1] at hl; cases hl
          | some ρ1 =>
            simp only [c1] at hl
            refine (hg _).go h3 d3 c1 fun O4 σ4 h4 s4 w4 n4 => ⟨w4.trans (wipe_wipe σ vs), ?_⟩
            cases c2 : rt ρ1 with
            | none => simp only [c2] at hl; cases hl
            | some o2 =>
              simp only [c2] at hl
              cases o2 with
              | error c => cases hl
              | ok b =>
                refine (ht _).go h4 c2 Err.ok fun b' H5 q x5 => ?_
                cases q
                cases b with
                | true =>
                  refine iteT ?_
                  cases c3 : re ρ1 with
                  | none => simp only [c3] at hl; cases hl
                  | some o3 =>
                    simp only [c3] at hl
                    cases o3 with
                    | error c => cases hl
                    | ok y =>
                      simp only at hl
                      refine (he _).go (h4.go x5) c3 Err.ok fun y' v H6 q x6 d6 => ?_
                      cases q
                      cases c4 : lcL rg rt re (wipeR ρ vs) (ds.drop (i + 1)) with
                      | none => simp only [c4] at hl; cases hl
                      | some ys =>
                        simp only [c4] at hl
                        cases hl
                        have xx : Ext (F.plus (· = p)) H' H6 := (x3.trans x5).trans x6
                        have nmu : ¬ F.mu p := fun z => nbp (.inl (F.sub p z))
                        have p6 : H6 p = some (.lst acc) := xx.keep p _ nmu hp1
                        have oo : Same (hp (F.plus (· = p)) O4 fr H6) (hp (F.plus (· = p)) O fr H6) := hp_less fun a q => (n4 noo).1 a q
                        have up : Same (hp (F.plus (· = p)) O fr H6) (hp (F.plus (· = p)) O fr (upd H6 p (.lst (acc ++ [v])))) := fun b o q => by
                          obtain ⟨a1, a2⟩ := hp_some.mp q
                          have ne : b ≠ p := fun z => a1 (.inl (.inr z))
                          exact hp_some.mpr ⟨a1, by rw [upd_ne ne]; exact a2⟩
                        have l6 : acc.length < sizeLine := szM (by have := cl.1; omega)
                        have x7 : Ext F H1 (upd H6 p (.lst (acc ++ [v]))) := by
                          have x6 := x2.trans (ext_plus.mp xx)
                          refine ⟨fun b o m q => ?_, fun b q => ?_, fun q => F.lst H6 p acc _ p6 (x6.inv q)⟩
                          · rw [upd_ne (ne_of_none q np)]; exact x6.keep b o m q
                          · by_cases z : b = p
                            · subst z; exact absurd np q
                            · rw [upd_ne z]; exact x6.live b q
                        exact ⟨acc, p6, l6, hlt, x7, acc ++ [v], es ++ [y], ys, upd_same, FitAll.app (dps_mono up (dps_mono (hp_ext xx) hd)) (.cons (dp_mono up (dp_mono oo d6)) .nil), by rw [List.length_append, List.length_singleton]; omega, rfl, by rw [← htot, List.append_assoc]; rfl⟩
                | false =>
                  refine iteF ?_
                  simp only at hl
                  have xx : Ext (F.plus (· = p)) H' H5 := x3.trans x5
                  have nmu : ¬ F.mu p := fun z => nbp (.inl (F.sub p z))
                  exact ⟨hlt, x2.trans (ext_plus.mp xx), acc, es, rest, xx.keep p _ nmu hp1, dps_mono (hp_ext xx) hd, by omega, hl, htot⟩
        · have ei : i = ds.length := by omega
          subst ei
          rw [List.drop_length] at hl
          cases hl
          rw [List.append_nil] at htot
          subst htot
          refine .inl ⟨it.stop H' sz, k _ _ H' rfl (x1.trans x2) (.lst (Rd.of (hp_some.mpr ⟨nbp, hp1⟩)) (dps_mono hp_plus hd))⟩
    · rw [if_neg cl] at e2; cases e2
  · subst e2
    exact hi.go hh e1 er.to fun d v H' q => nomatch q⟩
structure DTs (F : Fx) (E : XK) (X : Cx) (ifs : List Expr) (t : TT) (r : RT) : Prop where
  run : PTs X ifs t
  snd : ST X.K F E t r
def rYes : RT := fun _ => some (.ok true)
theorem dts_nil {F : Fx} {E : XK} {X : Cx} : DTs F E X [] tYes rYes := ⟨pts_nil, ⟨fun {H0 Z O σ H ρ o Q} hh e er k => by cases e; exact k true H rfl (Ext.refl _ _)⟩⟩
theorem dts_one {F : Fx} {E : XK} {X : Cx} {c : Expr} {t : TT} {r : RT} (h : DT F E X c t r) : DTs F E X [c] t r := ⟨pts_one h.run, h.snd⟩
/-! what a meaning asks, as a reading: so a block's readings are the same for all its starts -/
def canE (K : PySem.W.Frag) (F : Fx) (E : XK) (fr : Bool) (r : RE) : TE := fun σ H Q => ∃ (B : Addr → Prop) (H0 Z : Hp) (O : List (Option Addr)) (ρ : En) (o : Except Cn D), Holds K (F.plus B) H0 Z O σ H ρ ∧ r ρ = some o ∧ Err (F.plus B) E H o ∧
  ∀ d v H', o = .ok d → Ext (F.plus B) H H' → Fit K (hp (F.plus B) O fr H') v d → Q v H'
def canT (K : PySem.W.Frag) (F : Fx) (E : XK) (r : RT) : TT := fun σ H Q => ∃ (B : Addr → Prop) (H0 Z : Hp) (O : List (Option Addr)) (ρ : En) (o : Except Cn Bool), Holds K (F.plus B) H0 Z O σ H ρ ∧ r ρ = some o ∧ Err (F.plus B) E H o ∧
  ∀ b H', o = .ok b → Ext (F.plus B) H H' → Q b H'
def canG (K : PySem.W.Frag) (F : Fx) (rg : RG) (vs : List Nat) : TG := fun v σ H Q => ∃ (B : Addr → Prop) (H0 Z : Hp) (O : List (Option Addr)) (ρ ρ' : En) (d : D), Holds K (F.plus B) H0 Z O σ H ρ ∧ Fit K (hp (F.plus B) O true H) v d ∧ rg d ρ = some ρ' ∧
  ∀ O' σ', Holds K (F.plus B) H0 Z O' σ' H ρ' → Same (hp (F.plus B) O true H) (hp (F.plus B) O' true H) → wipe σ' vs = wipe σ vs → ((∀ i ∈ vs, ∀ a, O[i]? ≠ some (some a)) → (∀ a, some a ∈ O → some a ∈ O') ∧ ∀ i ∈ vs, ∀ a, O'[i]? ≠ some (some a)) → Q σ' H
section
variable {F : Fx} {E : XK} {X : Cx} {fr : Bool}
theorem can_pe {e : Expr} {r : RE} (h : ∀ B, ∃ t, DE (F.plus B) E X fr e t r) : PE X e (canE X.K F E fr r) := ⟨fun pins s σ H Q I q => by
  obtain ⟨B, H0, Z, O, ρ, o, hh, e, er, k⟩ := q
  obtain ⟨t, d⟩ := h B
  exact d.run.run pins s σ H Q I (d.snd.go hh e er k)⟩
theorem can_pt {es : List Expr} {r : RT} (h : ∀ B, ∃ t, DTs (F.plus B) E X es t r) : PTs X es (canT X.K F E r) := ⟨fun pins s σ H Q I q => by
  obtain ⟨B, H0, Z, O, ρ, o, hh, e, er, k⟩ := q
  obtain ⟨t, d⟩ := h B
  exact d.run.run pins s σ H Q I (d.snd.go hh e er k)⟩
theorem can_pg {tg : Expr} {rg : RG} {vs : List Nat} (h : ∀ B, ∃ g, DG (F.plus B) X tg g rg vs) : PG X tg (canG X.K F rg vs) := ⟨fun pins s σ H v u Q I r q => by
  obtain ⟨B, H0, Z, O, ρ, ρ', d, hh, hd, e, k⟩ := q
  obtain ⟨t, dd⟩ := h B
  exact dd.run.run pins s σ H v u Q I r (dd.snd.go hh hd e k)⟩
theorem can_se {K : PySem.W.Frag} {r : RE} {B : Addr → Prop} : SE K (F.plus B) E fr (canE K F E fr r) r := ⟨fun {H0 Z O σ H ρ o Q} hh e er k => ⟨B, H0, Z, O, ρ, o, hh, e, er, k⟩⟩
theorem can_st {K : PySem.W.Frag} {r : RT} {B : Addr → Prop} : ST K (F.plus B) E (canT K F E r) r := ⟨fun {H0 Z O σ H ρ o Q} hh e er k => ⟨B, H0, Z, O, ρ, o, hh, e, er, k⟩⟩
theorem can_sg {K : PySem.W.Frag} {rg : RG} {vs : List Nat} {B : Addr → Prop} : SG K (F.plus B) (canG K F rg vs) rg vs := ⟨fun {H0 Z O σ H ρ v d ρ' Q} hh hd e k => ⟨B, H0, Z, O, ρ, ρ', d, hh, hd, e, k⟩⟩
section
variable {elt tg iter : Expr} {ifs : List Expr} {scope : Scope} (own : List (Str × Nat)) {pos : Pos} {wi : TI} {ri : RA} {rg : RG} {rt : RT} {re : RE}
theorem de_lc (hc : X.calm = true) (hN : X.N.Nodup) (hi : DI F E X tg iter wi ri) (ok : BlkOk X.N X.env.scope scope own)
    (hg : ∀ (s : Shared) (H : Hp) (C : Addr) (cl : List (Str × Addr)) (fp : List Addr) (B : Addr → Prop), ∃ g, DG (F.plus B) (X.blk s H scope (compEnvC scope cl C X.env) fp) tg g rg (own.map (·.2)))
    (ht : ∀ (s : Shared) (H : Hp) (C : Addr) (cl : List (Str × Addr)) (fp : List Addr) (B : Addr → Prop), ∃ tt, DTs (F.plus B) E0 (X.blk s H scope (compEnvC scope cl C X.env) fp) ifs tt rt)
    (he : ∀ (s : Shared) (H : Hp) (C : Addr) (cl : List (Str × Addr)) (fp : List Addr) (B : Addr → Prop), ∃ te, DE (F.plus B) E0 (X.blk s H scope (compEnvC scope cl C X.env) fp) fr elt te re) (hs : ∀ x, foldedSetIterable iter X.env x = pure x := by intro _; rfl) :
    DE F E X fr (.ListComp elt [⟨tg, iter, ifs, 0⟩] scope pos) (tLc wi (canG X.K F rg (own.map (·.2))) (canT X.K F E0 rt) (canE X.K F E0 fr re) (own.map (·.2))) (rLc ri rg rt re (own.map (·.2))) :=
  ⟨pe_lc hc hN hi.run ok (fun s H C cl fp => can_pg (X := X.blk s H scope (compEnvC scope cl C X.env) fp) (hg s H C cl fp)) (fun s H C cl fp => can_pt (X := X.blk s H scope (compEnvC scope cl C X.env) fp) (ht s H C cl fp)) (fun s H C cl fp => can_pe (X := X.blk s H scope (compEnvC scope cl C X.env) fp) (he s H C cl fp)) hs,
    se_lc hi.snd (fun B => can_sg) (fun B => can_st) (fun B => can_se)⟩
/-- name = [..] on one line -/
theorem ds_setLc (i : Nat) {y : Str} {py spos : Pos} (hc : X.calm = true) (hN : X.N.Nodup) (hi : DI F E X tg iter wi ri) (ok : BlkOk X.N X.env.scope scope own)
    (hg : ∀ (s : Shared) (H : Hp) (C : Addr) (cl : List (Str × Addr)) (fp : List Addr) (B : Addr → Prop), ∃ g, DG (F.plus B) (X.blk s H scope (compEnvC scope cl C X.env) fp) tg g rg (own.map (·.2)))
    (ht : ∀ (s : Shared) (H : Hp) (C : Addr) (cl : List (Str × Addr)) (fp : List Addr) (B : Addr → Prop), ∃ tt, DTs (F.plus B) E0 (X.blk s H scope (compEnvC scope cl C X.env) fp) ifs tt rt)
    (he : ∀ (s : Shared) (H : Hp) (C : Addr) (cl : List (Str × Addr)) (fp : List Addr) (B : Addr → Prop), ∃ te, DE (F.plus B) E0 (X.blk s H scope (compEnvC scope cl C X.env) fp) true elt te re)
    (hy : X.N[i]? = some y := by rfl) (hyl : X.env.scope.names.lookup y = some .local := by rfl)
    (hsw : swapsWith (.ListComp elt [⟨tg, iter, ifs, 0⟩] scope pos) (some (.Name y py)) spos.line X.env = pure true := by exact sw_true rfl rfl rfl (by decide +kernel)) (hs : ∀ x, foldedSetIterable iter X.env x = pure x := by intro _; rfl) :
    DS F E X (.Assign [.Name y py] (.ListComp elt [⟨tg, iter, ifs, 0⟩] scope pos) spos) (tAsg (tLc wi (canG X.K F rg (own.map (·.2))) (canT X.K F E0 rt) (canE X.K F E0 true re) (own.map (·.2))) (gName i)) (sSet i (rLc ri rg rt re (own.map (·.2)))) :=
  ⟨ps_setLc hc hN hy hyl hsw hi.run ok (fun s H C cl fp => can_pg (X := X.blk s H scope (compEnvC scope cl C X.env) fp) (hg s H C cl fp)) (fun s H C cl fp => can_pt (X := X.blk s H scope (compEnvC scope cl C X.env) fp) (ht s H C cl fp)) (fun s H C cl fp => can_pe (X := X.blk s H scope (compEnvC scope cl C X.env) fp) (he s H C cl fp)) hs,
    ⟨fun {H0 Z O σ H ρ o D} hh e a => (se_lc (fr := true) hi.snd (fun B => can_sg) (fun B => can_st) (fun B => can_se)).st hh e a fun d v H1 e1 x1 hh1 d1 => by cases e1; exact a _ _ _ (hh1.set i d1)⟩⟩
end
end

/-! ### defs and their calls -/
def pureF (exc : Cn → Value) (B : Addr → Prop) : Fx where
  exc := exc
  bad := B
  mu := fun _ => False
  sub := fun _ h => h.elim
  inv := fun _ => True
  mono := fun _ _ _ _ => trivial
  lst := fun _ _ _ _ _ _ => trivial
/-- a def's promise by its meaning; B: what the data don't speak of -/
def spD (K : PySem.W.Frag) (exc : Cn → Value) (n : Nat) (f : List D → R D) : Sp := fun vs H Q E => ∃ (B : Addr → Prop) (ds : List D) (o : Except Cn D), (∀ p, H p = none → ¬ B p) ∧ FitAll K (hp (pureF exc B) [] false H) vs ds ∧ ds.length = n ∧ f ds = some o ∧
  (∀ d v H', o = .ok d → Same H H' → Fit K (hp (pureF exc B) [] false H') v d → Q v H') ∧ ∀ c H', o = .error c → Same H H' → E (exc c) none H'
structure Known (P : Program) (w : World) (K : PySem.W.Frag) (mg : Str → Option Value) (base : Heap) (exc : Cn → Value) (k : Nat) (x : Str) (n : Nat) (m : List D → R D) : Prop where
  ex : ∃ (f : Addr) (fd : FuncData) (ps : List Str), ps.length = n ∧ FnOk P w K mg base (L2.CX P w) k f fd ps (spD K exc n m) ∧ mg x = some (.ref f) ∧ PySem.W.keepIn K (.ref f) = true ∧ Binds K fd ps []
theorem Known.mono {P : Program} {w : World} {K : PySem.W.Frag} {mg : Str → Option Value} {base : Heap} {exc : Cn → Value} {k j : Nat} {x : Str} {n : Nat} {m : List D → R D} (h : Known P w K mg base exc k x n m) (l : k ≤ j) : Known P w K mg base exc j x n m :=
  let ⟨f, fd, ps, a, b, c, d, e⟩ := h.ex; ⟨f, fd, ps, a, b.mono l, c, d, e⟩
def rCall (n : Nat) (m : List D → R D) (rs : RA) : RE := fun ρ => bnd (rs ρ) fun ds => if ds.length = n then m ds else none
theorem hp_pure {F : Fx} {O : List (Option Addr)} {fr : Bool} {H : Hp} {exc : Cn → Value} : hp (pureF exc fun a => F.bad a ∨ (fr = true ∧ some a ∈ O)) [] false H = hp F O fr H := by
  funext a
  cases q : hp F O fr H a with
  | some o =>
    obtain ⟨n, z⟩ := hp_some.mp q
    exact hp_some.mpr ⟨fun y => y.elim n fun y => (nomatch y.1), z⟩
  | none =>
    cases p : hp (pureF exc fun a => F.bad a ∨ (fr = true ∧ some a ∈ O)) [] false H a with
    | none => rfl
    | some o =>
      obtain ⟨n, z⟩ := hp_some.mp p
      rw [hp_some.mpr ⟨fun y => n (.inl y), z⟩] at q
      cases q
theorem de_call {F : Fx} {E : XK} {X : Cx} {fr : Bool} {e : Expr} {es : List Expr} {p pos : Pos} {x : Str} {k n : Nat} {m : List D → R D} {t : TA} {rs : RA} (G : Known X.prog X.w X.K X.mg X.base F.exc k x n m) (hr : Room k X.A) (hx : Passes (L2.CX X.prog X.w) X E) (ha : DA F E X fr (e :: es) t rs)
    (hl : (e :: es).length = n := by rfl) (hg : Gl X x := by rfl) (hdb : (x == ("__debug__" : Str)) = false := by decide) (he : starEach (e :: es) X.env = (false, eval e X.env) :: starEach es X.env := by rfl) (hpl : (backTo pos (starEach es X.env)).any (·.1) = false := by rfl) :
    DE F E X fr (.Call (.Name x p) (e :: es) [] pos) (tCall (spD X.K F.exc n m) [] E t) (rCall n m rs) := by
  obtain ⟨f, fd, ps, hn, G, hm, hk, hb⟩ := G.ex
  refine ⟨pe_call G hr hg hm hk hb .nil hx ha.run hdb he hpl, ⟨fun {H0 Z O σ H ρ o Q} hh e er k => ha.snd.bnd hh e er fun ds vs H1 e1 x1 hh1 d1 => ?_⟩⟩
  split at e1
  · rename_i hlen
    rw [List.append_nil]
    refine ⟨fun a => F.bad a ∨ (fr = true ∧ some a ∈ O), ds, o, fun p n => hh1.fresh n, by rw [hp_pure]; exact d1, hlen, e1, fun d v H' q s d2 => ?_, fun c H' q s => er c q H' (x1.trans (Ext.of s))⟩
    rw [hp_pure] at d2
    exact k d v H' q (x1.trans (Ext.of s)) d2
  · cases e1
def fnSem (N : Nat) (r : RS) : List D → R D := fun ds => match r (ds.map SV.val ++ List.replicate (N - ds.length) SV.no) with
  | some (.rt d) => some (.ok d)
  | some (.nx _) => some (.ok .none)
  | some (.ex c) => some (.error c)
  | _ => none
theorem holds_start {K : PySem.W.Frag} {exc : Cn → Value} {B : Addr → Prop} {H : Hp} {vs : List V} {ds : List D} {N : List Str} (hB : ∀ p, H p = none → ¬ B p) (hd : FitAll K (hp (pureF exc B) [] false H) vs ds) (hl : ds.length ≤ N.length) :
    Holds K (pureF exc B) H (fun _ => none) (List.replicate N.length none) (start N vs) H (ds.map SV.val ++ List.replicate (N.length - ds.length) SV.no) := by
  have hlen := FitAll.len hd
  have nO : ∀ a : Addr, some a ∉ List.replicate N.length (none : Option Addr) := fun a z => by
    have := (List.mem_replicate.mp z).2
    cases this
  have up : Same (hp (pureF exc B) [] false H) (hp (pureF exc B) (List.replicate N.length none) true H) := fun a o q => by
    obtain ⟨n, z⟩ := hp_some.mp q
    exact hp_some.mpr ⟨fun y => y.elim (fun y => n (.inl y)) fun y => nO a y.2, z⟩
  refine ⟨?_, ?_, fun i d q => ?_, fun i d q => ?_, fun i d q => ?_, fun i d q => ?_, fun i j a q => ?_, fun a q => absurd q (nO a), fun a q z => hB a z q, Ext.refl _ _, fun _ _ q => (nomatch q), fun i a q => absurd (List.mem_of_getElem? q) (nO a), trivial⟩
  · unfold L2.start
    simp only [List.length_append, List.length_map, List.length_replicate]
    omega
  · simp only [List.length_append, List.length_map, List.length_replicate]
    omega
  · by_cases hi : i < ds.length
    · rw [List.getElem?_append_left (by rw [List.length_map]; exact hi), List.getElem?_map] at q
      obtain ⟨d', e1, e2⟩ := Option.map_eq_some_iff.mp q
      cases e2
      obtain ⟨v, e3, e4⟩ := FitAll.get hd e1
      refine ⟨v, ?_, dp_mono up e4⟩
      unfold L2.start
      rw [List.getElem?_append_left (by rw [List.length_map]; omega), List.getElem?_map, e3] <;> rfl
    · rw [List.getElem?_append_right (by rw [List.length_map]; omega)] at q
      have := (List.mem_replicate.mp (List.mem_of_getElem? q)).2
      cases this
  · rcases List.mem_append.mp (List.mem_of_getElem? q) with z | z
    · obtain ⟨d', _, e2⟩ := List.mem_map.mp z
      cases e2
    · cases (List.mem_replicate.mp z).2
  · rcases List.mem_append.mp (List.mem_of_getElem? q) with z | z
    · obtain ⟨d', _, e2⟩ := List.mem_map.mp z
      cases e2
    · cases (List.mem_replicate.mp z).2
  · rcases List.mem_append.mp (List.mem_of_getElem? q) with z | z
    · obtain ⟨d', _, e2⟩ := List.mem_map.mp z
      cases e2
    · cases (List.mem_replicate.mp z).2
  · exact absurd (List.mem_of_getElem? q) (nO a)
section
variable {P : Program} {w : World} {K : PySem.W.Frag} {mg : Str → Option Value} {base : Heap} {exc : Cn → Value}
theorem spD_len {n : Nat} {m : List D → R D} {vs : List V} {H : Hp} {Q : VK} {E : XK} (h : spD K exc n m vs H Q E) : vs.length = n := by
  obtain ⟨B, ds, o, _, hd, hl, _⟩ := h
  rw [FitAll.len hd]
  exact hl
theorem fn_ok {x : Str} {st : Stmt} {f : Addr} {fd : FuncData} {N ps : List Str} {k n : Nat} {r : RS} (F : Fun K x x st f fd) (hm : mg x = some (.ref f)) (hb : Binds K fd ps []) (S : FnScope N ps (defScope st)) (hn : ps.length = n)
    (body : ∀ (cdv : Value) (A : Around) (outer : List Env) (s : Shared) (H : Hp) (E : XK) (B : Addr → Prop), Room k (A.deeper (PyProof.Rows.envOfC x (defScope st) s.heap.objs.size f cdv)) →
      ∃ t, DSs (pureF exc B) E (cxOf (L2.CX P w) P w K mg base N x (defScope st) f cdv A outer s H E) (defBody st) t r) : Known P w K mg base exc (k + 1) x n (fnSem N.length r) := by
  refine ⟨f, fd, ps, hn, F.okX S (fun vs H Q E h => (spD_len h).trans hn.symm) (fun cdv A outer s H vs Q E hr h => ?_), hm, F.kp, hb⟩
  obtain ⟨B, ds, o, hB, hd, hl, he, k1, k2⟩ := h
  obtain ⟨t, dd⟩ := body cdv A outer s H E B hr
  refine ⟨t, dd.run, ?_⟩
  have hle : ds.length ≤ N.length := by
    have z := congrArg List.length S.pre
    rw [List.length_take] at z
    omega
  have hh := holds_start (N := N) hB hd hle
  unfold fnSem at he
  cases c : r (ds.map SV.val ++ List.replicate (N.length - ds.length) SV.no) with
  | none => rw [c] at he; cases he
  | some o1 =>
    rw [c] at he
    refine dd.snd.go hh c ?_
    have same : ∀ {H' : Hp}, Ext (pureF exc B) H H' → Same H H' := fun e a o q => e.keep a o (fun z => z) q
    cases o1 with
    | nx ρ => cases he; exact fun O σ H' h' => k1 _ _ _ rfl (same h'.ext) .non
    | bk ρ => cases he
    | ct ρ => cases he
    | rt d => cases he; exact fun v H' e d' => k1 _ _ _ rfl (same e) d'
    | ex c => cases he; exact fun H' e => k2 _ _ rfl (same e)
theorem known_none {x : Str} {st : Stmt} {f : Addr} {fd : FuncData} {ps : List Str} {k n : Nat} {m : List D → R D} (F : Fun K x x st f fd) (hm : mg x = some (.ref f)) (hb : Binds K fd ps []) (hn : ps.length = n) (h0 : ∀ ds, m ds = none) : Known P w K mg base exc k x n m := by
  have no : ∀ vs H Q E, ¬ spD K exc n m vs H Q E := fun vs H Q E h => by
    obtain ⟨B, ds, o, _, _, _, he, _⟩ := h
    rw [h0] at he
    cases he
  exact ⟨f, fd, ps, hn, ⟨fun vs H Q E h => absurd h (no vs H Q E), fun A outer s H args us vs Q E _ _ _ _ h => absurd h (no vs H Q E)⟩, hm, F.kp, hb⟩
end
theorem passD {X : Cx} {E : XK} (tk : Takes X (fun cls d _ H => E cls d H)) : Passes (L2.CX X.prog X.w) X E := passes_call tk fun _ _ _ _ h => h
end DL
set_option Elab.async false
set_option linter.all false
set_option maxRecDepth 100000
namespace DL
open PySem L2 PyProof.Rows
section
variable {X : Cx} {K : PySem.W.Frag}
/-! ### + -/
def rCatQ : R2 := fun x y H Q => ∃ l b xs zs, x = .ref l ∧ y = .ref b ∧ Rd H l (.lst xs) ∧ Rd H b (.lst zs) ∧ xs.length + zs.length ≤ sizeLine ∧ ∀ p, H p = none → Q (.ref p) (upd H p (.lst (xs ++ zs)))
theorem op_catQ : OpR X (binaryOp .Add) rCatQ := by
  intro pins s σ H x y v u Q I rx ry h
  obtain ⟨l, b, xs, zs, rfl, rfl, hH, hB, hz, q⟩ := h
  cases rx
  cases ry
  obtain ⟨z, its, n, r, e⟩ := hH.ok I.hok
  obtain ⟨z2, its2, n2, r2, e2⟩ := hB.ok I.hok
  have hl := r.length
  have hl2 := r2.length
  refine PySem.P.add_list e e2 ?_ (by rw [List.size_toArray, List.size_toArray]; omega)
  have ea : its.toArray ++ its2.toArray = (its ++ its2).toArray := by simp
  rw [ea]
  exact ⟨.ref _, _, I.lnew (t' := s.toks) (r.append r2) (by rw [List.length_append]; omega), rfl, q _ I.fresh⟩
def addD : D → D → Option D
  | .int i, .int j => some (.int (i + j))
  | .str i, .str j => if i.length + j.length ≤ 1000000 then some (.str (i ++ j)) else none
  | .tuple xs, .tuple ys => if xs.length + ys.length ≤ 1000000 then some (.tuple (xs ++ ys)) else none
  | .list xs, .list ys => if xs.length + ys.length ≤ 1000000 then some (.list (xs ++ ys)) else none
  | _, _ => none
theorem dp_int {H : Hp} {v : V} {i : Int} (h : Fit K H v (.int i)) : v = .int i := by cases h; rfl
theorem dp_bool {H : Hp} {v : V} {i : Bool} (h : Fit K H v (.bool i)) : v = .bl i := by cases h; rfl
theorem dp_str {H : Hp} {v : V} {i : Str} (h : Fit K H v (.str i)) : v = .str i := by cases h; rfl
theorem dp_tup {H : Hp} {v : V} {ds : List D} (h : Fit K H v (.tuple ds)) : ∃ a xs, v = .ref a ∧ SqT K H a xs ∧ FitAll K H xs ds := by cases h with | tup a b => exact ⟨_, _, rfl, a, b⟩
theorem dp_lst {H : Hp} {v : V} {ds : List D} (h : Fit K H v (.list ds)) : ∃ a xs, v = .ref a ∧ Rd H a (.lst xs) ∧ FitAll K H xs ds := by cases h with | lst a b => exact ⟨_, _, rfl, a, b⟩
theorem op_addQ : OpR X (binaryOp .Add) (fun x y H Q => rI0 (fun i j => .int (i + j)) x y H Q ∨ (∃ i j, x = .str i ∧ y = .str j ∧ i.length + j.length ≤ sizeLine ∧ Q (.str (i ++ j)) H) ∨ rCatA X.K x y H Q ∨ rCatQ x y H Q) := op_add.or (op_add_str.or (op_catA.or op_catQ))
theorem os_add : OpS K (fun x y H Q => rI0 (fun i j => .int (i + j)) x y H Q ∨ (∃ i j, x = .str i ∧ y = .str j ∧ i.length + j.length ≤ sizeLine ∧ Q (.str (i ++ j)) H) ∨ rCatA K x y H Q ∨ rCatQ x y H Q) addD := ⟨fun {F O fr H x y a b d Q} nb h1 h2 e k => by
  unfold addD at e
  split at e
  · cases e
    exact .inl ⟨_, _, dp_int h1, dp_int h2, k _ H (Ext.refl _ _) (.int _)⟩
  · split at e
    · rename_i c
      cases e
      exact .inr (.inl ⟨_, _, dp_str h1, dp_str h2, szMe c, k _ H (Ext.refl _ _) (.str _)⟩)
    · cases e
  · split at e
    · rename_i c
      cases e
      obtain ⟨p, vs, rfl, s1, t1⟩ := dp_tup h1
      obtain ⟨q, ws, rfl, s2, t2⟩ := dp_tup h2
      refine .inr (.inr (.inl ⟨p, q, vs, ws, rfl, rfl, sqt_mono hp_le s1, sqt_mono hp_le s2, by rw [FitAll.len t1, FitAll.len t2]; exact szMe c, fun z => ?_, fun _ z => ?_, fun _ _ r n => ?_⟩))
      · subst z
        cases t1
        exact k _ H (Ext.refl _ _) h2
      · subst z
        cases t2
        rw [List.append_nil] at k
        exact k _ H (Ext.refl _ _) h1
      · exact k _ _ (ext_new n _) (dp_newT n (nb r n) (FitAll.app t1 t2))
    · cases e
  · split at e
    · rename_i c
      cases e
      obtain ⟨p, vs, rfl, s1, t1⟩ := dp_lst h1
      obtain ⟨q, ws, rfl, s2, t2⟩ := dp_lst h2
      exact .inr (.inr (.inr ⟨p, q, vs, ws, rfl, rfl, rd_mono hp_le s1, rd_mono hp_le s2, by rw [FitAll.len t1, FitAll.len t2]; exact szMe c, fun r n => k _ _ (ext_new n _) (dp_newL n (nb r n) (FitAll.app t1 t2))⟩))
    · cases e
  · cases e⟩
/-! ### -, *, //, % -/
def subD : D → D → Option D
  | .int i, .int j => some (.int (i - j))
  | _, _ => none
theorem os_sub : OpS K (rI0 fun i j => .int (i - j)) subD := ⟨fun {F O fr H x y a b d Q} nb h1 h2 e k => by
  unfold subD at e
  split at e
  · cases e
    exact ⟨_, _, dp_int h1, dp_int h2, k _ H (Ext.refl _ _) (.int _)⟩
  · cases e⟩
def fdivD : D → D → Option D
  | .int i, .int j => if 0 < j ∧ j < 1073741824 then some (.int (i / j)) else none
  | _, _ => none
theorem os_fdiv : OpS K (rI CDiv fun i j => .int (i / j)) fdivD := ⟨fun {F O fr H x y a b d Q} nb h1 h2 e k => by
  unfold fdivD at e
  split at e
  · split at e
    · rename_i c
      cases e
      exact ⟨_, _, dp_int h1, dp_int h2, c, k _ H (Ext.refl _ _) (.int _)⟩
    · cases e
  · cases e⟩
def modD : D → D → Option D
  | .int i, .int j => if 0 < j then some (.int (i % j)) else none
  | _, _ => none
theorem os_mod : OpS K (rI (fun _ j => 0 < j) fun i j => .int (i % j)) modD := ⟨fun {F O fr H x y a b d Q} nb h1 h2 e k => by
  unfold modD at e
  split at e
  · split at e
    · rename_i c
      cases e
      exact ⟨_, _, dp_int h1, dp_int h2, c, k _ H (Ext.refl _ _) (.int _)⟩
    · cases e
  · cases e⟩
def repS (z : Str) (n : Nat) : Str := ⟨((List.replicate n z.cps.toList).flatten).toArray⟩
theorem rep_fold (xs : Array Nat) : ∀ (n : Nat) (acc : Array Nat), (List.replicate n xs).foldl (· ++ ·) acc = acc ++ ((List.replicate n xs.toList).flatten).toArray
  | 0, acc => by simp
  | n + 1, acc => by
    rw [List.replicate_succ, List.foldl_cons, rep_fold xs n, List.replicate_succ, List.flatten_cons]
    apply Array.ext'
    simp
def rMulS : R2 := fun x y H Q => ∃ z k, x = .str z ∧ y = .int k ∧ 0 ≤ k ∧ k ≤ 1000 ∧ z.length ≤ 1000 ∧ Q (.str (repS z k.toNat)) H
theorem op_mulS : OpR X (binaryOp .Mult) rMulS := by
  intro pins s σ H x y v u Q I rx ry h
  obtain ⟨z, k, rfl, rfl, h0, h1, h2, q⟩ := h
  obtain ⟨t, rfl⟩ := rx
  obtain ⟨t', rfl⟩ := ry
  have hk : (k.toNat : Int) = k := Int.toNat_of_nonneg h0
  refine PySem.P.mul_str ?_ ?_ ?_ ?_
  · rw [decide_eq_false (show ¬ k < -(2 ^ 63 : Int) by omega), decide_eq_false (show ¬ k ≥ 2 ^ 63 by omega)]; rfl
  · intro a b c
    have e1 : (2 ^ 63 - 1 : Int) / k ≥ 1000 := by
      rw [ge_iff_le, Int.le_ediv_iff_mul_le (by omega)]
      omega
    omega
  · intro a b
    unfold Builtin.Str.tooLong
    have e1 : z.length * k.toNat ≤ 1000 * 1000 := Nat.mul_le_mul h2 (by omega)
    have e2 : sizeLine = 16777216 := sizeLine_eq
    simp only [decide_eq_false_iff_not]
    omega
  · by_cases c1 : k < 1
    · rw [if_pos c1]
      have e : k.toNat = 0 := by omega
      rw [e] at q
      exact ⟨by decide, .str (repS z 0), H, I.tok _, ⟨_, rfl⟩, q⟩
    · rw [if_neg c1]
      by_cases c2 : (k == 1 || z.length == 0) = true
      · rw [if_pos c2]
        have e : repS z k.toNat = z := by
          rw [Bool.or_eq_true] at c2
          rcases c2 with c | c
          · have e : k = 1 := eq_of_beq c
            subst e
            show (⟨((List.replicate 1 z.cps.toList).flatten).toArray⟩ : Str) = z
            simp
          · have e : z.length = 0 := eq_of_beq c
            have e2 : z.cps = #[] := by
              apply Array.eq_empty_of_size_eq_zero
              exact e
            unfold repS
            rw [e2]
            simp
            cases z
            simp only at e2
            rw [e2]
        rw [e] at q
        exact ⟨.str z, H, I, ⟨_, rfl⟩, q⟩
      · rw [if_neg c2]
        have e : (⟨(List.replicate k.toNat z.cps).foldl (· ++ ·) #[]⟩ : Str) = repS z k.toNat := by
          rw [rep_fold]
          unfold repS
          simp
        rw [e]
        refine ⟨?_, .str (repS z k.toNat), H, I.tok _, ⟨_, rfl⟩, q⟩
        show (repS z k.toNat).length ≤ sizeLine
        have e1 : z.length * k.toNat ≤ 1000 * 1000 := Nat.mul_le_mul h2 (by omega)
        have e2 : (repS z k.toNat).length = k.toNat * z.length := by
          unfold repS Str.length
          simp
        rw [e2, Nat.mul_comm, sizeLine_eq]
        omega
def mulD : D → D → Option D
  | .int i, .int j => if (-(2 ^ 64) < i ∧ i < 2 ^ 64) ∨ (-(2 ^ 64) < j ∧ j < 2 ^ 64) then some (.int (i * j)) else none
  | .str z, .int k => if 0 ≤ k ∧ k ≤ 1000 ∧ z.length ≤ 1000 then some (.str (repS z k.toNat)) else none
  | .tuple xs, .int k => if xs ≠ [] ∧ 2 ≤ k ∧ k ≤ 1000 ∧ xs.length ≤ 1000 then some (.tuple (List.replicate k.toNat xs).flatten) else none
  | _, _ => none
theorem FitAll.rep {H : Hp} {vs : List V} {ds : List D} (h : FitAll K H vs ds) : ∀ n : Nat, FitAll K H (List.replicate n vs).flatten (List.replicate n ds).flatten
  | 0 => .nil
  | n + 1 => by rw [List.replicate_succ, List.replicate_succ, List.flatten_cons, List.flatten_cons]; exact FitAll.app h (FitAll.rep h n)
theorem op_mulQ : OpR X (binaryOp .Mult) (fun x y H Q => rI CMul (fun i j => .int (i * j)) x y H Q ∨ rMulS x y H Q ∨ rRepT X.K x y H Q) := op_mul.or (op_mulS.or op_repT)
theorem os_mul : OpS K (fun x y H Q => rI CMul (fun i j => .int (i * j)) x y H Q ∨ rMulS x y H Q ∨ rRepT K x y H Q) mulD := ⟨fun {F O fr H x y a b d Q} nb h1 h2 e k => by
  unfold mulD at e
  split at e
  · split at e
    · rename_i c
      cases e
      exact .inl ⟨_, _, dp_int h1, dp_int h2, c, k _ H (Ext.refl _ _) (.int _)⟩
    · cases e
  · split at e
    · rename_i c
      cases e
      exact .inr (.inl ⟨_, _, dp_str h1, dp_int h2, c.1, c.2.1, c.2.2, k _ H (Ext.refl _ _) (.str _)⟩)
    · cases e
  · split at e
    · rename_i c
      cases e
      obtain ⟨p, vs, rfl, s1, t1⟩ := dp_tup h1
      have hl := FitAll.len t1
      refine .inr (.inr ⟨p, _, vs, rfl, dp_int h2, sqt_mono hp_le s1, fun z => c.1 ?_, c.2.1, c.2.2.1, by rw [hl]; exact c.2.2.2, fun r n => k _ _ (ext_new n _) (dp_newT n (nb r n) (FitAll.rep t1 _))⟩)
      subst z
      cases t1
      rfl
    · cases e
  · cases e⟩
/-! ### comparisons -/
def cmpD (f : Int → Int → Bool) (g : List Nat → List Nat → Bool) : D → D → Option D
  | .int i, .int j => some (.bool (f i j))
  | .str i, .str j => some (.bool (g i.cps.toList j.cps.toList))
  | _, _ => none
abbrev rCmp (f : Int → Int → Bool) (g : List Nat → List Nat → Bool) : R2 := fun x y H Q => rI0 (fun i j => .bl (f i j)) x y H Q ∨ ∃ i j, x = .str i ∧ y = .str j ∧ Q (.bl (g i.cps.toList j.cps.toList)) H
theorem os_cmp {f : Int → Int → Bool} {g : List Nat → List Nat → Bool} : OpS K (rCmp f g) (cmpD f g) := ⟨fun {F O fr H x y a b d Q} nb h1 h2 e k => by
  unfold cmpD at e
  split at e
  · cases e
    exact .inl ⟨_, _, dp_int h1, dp_int h2, k _ H (Ext.refl _ _) (.bl _)⟩
  · cases e
    exact .inr ⟨_, _, dp_str h1, dp_str h2, k _ H (Ext.refl _ _) (.bl _)⟩
  · cases e⟩
def ltD : D → D → Option D := cmpD (fun i j => decide (i < j)) fun a b => decide (a < b)
def leD : D → D → Option D := cmpD (fun i j => decide (i ≤ j)) fun a b => !decide (b < a)
def gtD : D → D → Option D := cmpD (fun i j => decide (j < i)) fun a b => decide (b < a)
def geD : D → D → Option D := cmpD (fun i j => decide (j ≤ i)) fun a b => !decide (a < b)
theorem op_ltQ : OpR X (compareOp .Lt) (rCmp (fun i j => decide (i < j)) fun a b => decide (a < b)) := op_lt.or op_lt_str
theorem op_leQ : OpR X (compareOp .LtE) (rCmp (fun i j => decide (i ≤ j)) fun a b => !decide (b < a)) := op_le.or op_le_str
theorem op_gtQ : OpR X (compareOp .Gt) (rCmp (fun i j => decide (j < i)) fun a b => decide (b < a)) := op_gt.or op_gt_str
theorem op_geQ : OpR X (compareOp .GtE) (rCmp (fun i j => decide (j ≤ i)) fun a b => !decide (a < b)) := op_ge.or op_ge_str
def eqD (a b : D) : Option D := if SeqAt.shaped a = true ∧ SeqAt.shaped b = true then some (.bool (PyData.eqv a b)) else none
def neD (a b : D) : Option D := if SeqAt.shaped a = true ∧ SeqAt.shaped b = true then some (.bool (!PyData.eqv a b)) else none
theorem os_eq : OpS K (rEqD K) eqD := ⟨fun {F O fr H x y a b d Q} nb h1 h2 e k => by
  unfold eqD at e
  split at e
  · rename_i c
    cases e
    exact ⟨a, b, (dp_mono hp_le h1).up (SeqAt.canLay_of_shaped c.1), (dp_mono hp_le h2).up (SeqAt.canLay_of_shaped c.2), c.1, c.2, k _ H (Ext.refl _ _) (.bl _)⟩
  · cases e⟩
theorem os_ne : OpS K (rNeD K) neD := ⟨fun {F O fr H x y a b d Q} nb h1 h2 e k => by
  unfold neD at e
  split at e
  · rename_i c
    cases e
    exact ⟨a, b, (dp_mono hp_le h1).up (SeqAt.canLay_of_shaped c.1), (dp_mono hp_le h2).up (SeqAt.canLay_of_shaped c.2), c.1, c.2, k _ H (Ext.refl _ _) (.bl _)⟩
  · cases e⟩
def isND : D → Bool
  | .none => true
  | _ => false
def isD : D → D → Option D
  | x, .none => some (.bool (isND x))
  | .bool a, .bool b => some (.bool (decide (a = b)))
  | _, _ => none
def notD : D → D → Option D
  | x, .none => some (.bool (!isND x))
  | .bool a, .bool b => some (.bool (!decide (a = b)))
  | _, _ => none
theorem dp_isN {H : Hp} {v : V} {d : D} (h : Fit K H v d) : decide (v = .non) = isND d := by
  cases h <;> rfl
theorem op_isQ : OpR X (compareOp .Is) (fun x y H Q => (y = .non ∧ Q (.bl (decide (x = .non))) H) ∨ rIsB x y H Q) := op_isN.or op_isBl
theorem op_notQ : OpR X (compareOp .IsNot) (fun x y H Q => (y = .non ∧ Q (.bl (!decide (x = .non))) H) ∨ rNotB x y H Q) := op_notN.or op_notBl
theorem os_is : OpS K (fun x y H Q => (y = .non ∧ Q (.bl (decide (x = .non))) H) ∨ rIsB x y H Q) isD := ⟨fun {F O fr H x y a b d Q} nb h1 h2 e k => by
  unfold isD at e
  split at e
  · cases e
    cases h2
    refine .inl ⟨rfl, ?_⟩
    rw [dp_isN h1]
    exact k _ H (Ext.refl _ _) (.bl _)
  · cases e
    exact .inr ⟨_, _, dp_bool h1, dp_bool h2, k _ H (Ext.refl _ _) (.bl _)⟩
  · cases e⟩
theorem os_not : OpS K (fun x y H Q => (y = .non ∧ Q (.bl (!decide (x = .non))) H) ∨ rNotB x y H Q) notD := ⟨fun {F O fr H x y a b d Q} nb h1 h2 e k => by
  unfold notD at e
  split at e
  · cases e
    cases h2
    refine .inl ⟨rfl, ?_⟩
    rw [dp_isN h1]
    exact k _ H (Ext.refl _ _) (.bl _)
  · cases e
    exact .inr ⟨_, _, dp_bool h1, dp_bool h2, k _ H (Ext.refl _ _) (.bl _)⟩
  · cases e⟩
/-! ### in, not in -/
def rInT (K : PySem.W.Frag) (neg : Bool) : R2 := fun x y H Q => ∃ d ds, L2.Dp K H x d ∧ L2.Dp K H y (.tuple ds) ∧ SeqAt.shaped d = true ∧ SeqAt.shaped (.tuple ds) = true ∧ Q (.bl (if neg then !ds.any fun z => PyData.eqv z d else ds.any fun z => PyData.eqv z d)) H
theorem op_inT (hu : X.A.units + 65 < cLine) : OpR X (compareOp .In) (rInT X.K false) := by
  intro pins s σ H x y v u Q I rx ry h
  obtain ⟨d, ds, hd, he, sd, se, q⟩ := h
  obtain ⟨as, r1⟩ := L2.Dp.reads I d x v hd rx
  obtain ⟨bs, r2⟩ := L2.Dp.reads I (.tuple ds) y u he ry
  exact SeqAt.in_tuple_reads r2 r1 (SeqAt.canLay_of_shaped se) (SeqAt.canLay_of_shaped sd) (room_in_shaped sd hu) ⟨.bl _, H, I, rfl, q⟩
theorem op_notInT (hu : X.A.units + 65 < cLine) : OpR X (compareOp .NotIn) (rInT X.K true) := by
  intro pins s σ H x y v u Q I rx ry h
  obtain ⟨d, ds, hd, he, sd, se, q⟩ := h
  obtain ⟨as, r1⟩ := L2.Dp.reads I d x v hd rx
  obtain ⟨bs, r2⟩ := L2.Dp.reads I (.tuple ds) y u he ry
  exact SeqAt.notIn_tuple_reads r2 r1 (SeqAt.canLay_of_shaped se) (SeqAt.canLay_of_shaped sd) (room_in_shaped sd hu) ⟨.bl _, H, I, rfl, q⟩
def inD (neg : Bool) (x y : D) : Option D := match y with
  | .list ds => if SeqAt.shaped x = true ∧ SeqAt.shaped (.list ds) = true then some (.bool (if neg then !ds.any fun z => PyData.eqv z x else ds.any fun z => PyData.eqv z x)) else none
  | .tuple ds => if SeqAt.shaped x = true ∧ SeqAt.shaped (.tuple ds) = true then some (.bool (if neg then !ds.any fun z => PyData.eqv z x else ds.any fun z => PyData.eqv z x)) else none
  | .str z => match x with
    | .str ⟨⟨[c]⟩⟩ => some (.bool (if neg then !decide (c ∈ z.cps.toList) else decide (c ∈ z.cps.toList)))
    | _ => none
  | _ => none
theorem op_inQ (hu : X.A.units + 65 < cLine) : OpR X (compareOp .In) (fun x y H Q => rInD X.K x y H Q ∨ rInT X.K false x y H Q ∨ ∃ (c : Nat) (z : Str), x = .str ⟨#[c]⟩ ∧ y = .str z ∧ Q (.bl (decide (c ∈ z.cps.toList))) H) := (op_inD hu).or ((op_inT hu).or op_in_sign)
theorem op_notInQ (hu : X.A.units + 65 < cLine) : OpR X (compareOp .NotIn) (fun x y H Q => rNotInD X.K x y H Q ∨ rInT X.K true x y H Q ∨ ∃ (c : Nat) (z : Str), x = .str ⟨#[c]⟩ ∧ y = .str z ∧ Q (.bl (!decide (c ∈ z.cps.toList))) H) := (op_notInD hu).or ((op_notInT hu).or op_notIn_sign)
theorem os_in : OpS K (fun x y H Q => rInD K x y H Q ∨ rInT K false x y H Q ∨ ∃ (c : Nat) (z : Str), x = .str ⟨#[c]⟩ ∧ y = .str z ∧ Q (.bl (decide (c ∈ z.cps.toList))) H) (inD false) := ⟨fun {F O fr H x y a b d Q} nb h1 h2 e k => by
  unfold inD at e
  split at e
  · split at e
    · rename_i c
      cases e
      exact .inl ⟨a, _, (dp_mono hp_le h1).up (SeqAt.canLay_of_shaped c.1), (dp_mono hp_le h2).up (SeqAt.canLay_of_shaped c.2), c.1, c.2, k _ H (Ext.refl _ _) (.bl _)⟩
    · cases e
  · split at e
    · rename_i c
      cases e
      exact .inr (.inl ⟨a, _, (dp_mono hp_le h1).up (SeqAt.canLay_of_shaped c.1), (dp_mono hp_le h2).up (SeqAt.canLay_of_shaped c.2), c.1, c.2, k _ H (Ext.refl _ _) (.bl _)⟩)
    · cases e
  · split at e
    · cases e
      exact .inr (.inr ⟨_, _, dp_str h1, dp_str h2, k _ H (Ext.refl _ _) (.bl _)⟩)
    · cases e
  · cases e⟩
theorem os_notIn : OpS K (fun x y H Q => rNotInD K x y H Q ∨ rInT K true x y H Q ∨ ∃ (c : Nat) (z : Str), x = .str ⟨#[c]⟩ ∧ y = .str z ∧ Q (.bl (!decide (c ∈ z.cps.toList))) H) (inD true) := ⟨fun {F O fr H x y a b d Q} nb h1 h2 e k => by
  unfold inD at e
  split at e
  · split at e
    · rename_i c
      cases e
      exact .inl ⟨a, _, (dp_mono hp_le h1).up (SeqAt.canLay_of_shaped c.1), (dp_mono hp_le h2).up (SeqAt.canLay_of_shaped c.2), c.1, c.2, k _ H (Ext.refl _ _) (.bl _)⟩
    · cases e
  · split at e
    · rename_i c
      cases e
      exact .inr (.inl ⟨a, _, (dp_mono hp_le h1).up (SeqAt.canLay_of_shaped c.1), (dp_mono hp_le h2).up (SeqAt.canLay_of_shaped c.2), c.1, c.2, k _ H (Ext.refl _ _) (.bl _)⟩)
    · cases e
  · split at e
    · cases e
      exact .inr (.inr ⟨_, _, dp_str h1, dp_str h2, k _ H (Ext.refl _ _) (.bl _)⟩)
    · cases e
  · cases e⟩
end
end DL
set_option Elab.async false
set_option linter.all false
set_option maxRecDepth 100000
namespace DL
open PySem L2 PyProof.Rows
section
variable {F : Fx} {E : XK} {X : Cx} {fr : Bool} {K : PySem.W.Frag} {pos : Pos}
/-! ### a < b < c -/
def rChain (g g' : D → D → Option D) (ra rb rc : RE) : RE := fun ρ => bnd (ra ρ) fun x => bnd (rb ρ) fun y => match g x y with
  | some (.bool true) => bnd (rc ρ) fun z => okO (g' y z)
  | some (.bool false) => some (.ok (.bool false))
  | _ => none
theorem se_chain {r r' : R2} {g g' : D → D → Option D} {ta tb tc : TE} {ra rb rc : RE} (hs : OpS K r g) (hs' : OpS K r' g') (ha : SE K F E fr ta ra) (hb : SE K F E fr tb rb) (hc : SE K F E fr tc rc) : SE K F E fr (tChain r r' ta tb tc) (rChain g g' ra rb rc) :=
  ⟨fun {H0 Z O σ H ρ o Q} hh e er k => ha.bnd hh e er fun x v H1 e1 x1 hh1 d1 => hb.bnd hh1 e1 (er.go x1) fun y w H2 e2 x2 hh2 d2 => by
    cases c : g x y with
    | none => simp only [c] at e2; cases e2
    | some d =>
      refine hs.go (fun p n => hh2.fresh n) (dp_mono (hp_ext x2) d1) d2 c fun u H3 x3 d3 => ?_
      cases d with
      | bool b =>
        refine ⟨b, dp_bool d3, ?_⟩
        cases b with
        | true =>
          simp only [c] at e2
          refine iteT (hc.bnd (hh2.go x3) e2 (er.go ((x1.trans x2).trans x3)) fun z w' H4 e4 x4 hh4 d4 => ?_)
          obtain ⟨d', e5, rfl⟩ := okO_eq e4
          exact hs'.go (fun p n => hh4.fresh n) (dp_mono (hp_ext (x3.trans x4)) d2) d4 e5 fun u' H5 x5 d5 => k _ u' H5 rfl ((((x1.trans x2).trans x3).trans x4).trans x5) d5
        | false =>
          simp only [c] at e2
          cases e2
          exact iteF (k _ _ H3 rfl ((x1.trans x2).trans x3) (.bl false))
      | _ => simp only [c] at e2; cases e2⟩
theorem de_chain {a b c : Expr} {op op' : CmpOp} {r r' : R2} {g g' : D → D → Option D} {ta tb tc : TE} {ra rb rc : RE} (hs : OpS X.K r g) (ho : OpR X (compareOp op) r) (hs' : OpS X.K r' g') (ho' : OpR X (compareOp op') r') (ha : DE F E X fr a ta ra) (hb : DE F E X fr b tb rb) (hc : DE F E X fr c tc rc)
    (hm : lastMarks [op, op'] [b, c] = false := by with_unfolding_all rfl) : DE F E X fr (.Compare a [op, op'] [b, c] pos) (tChain r r' ta tb tc) (rChain g g' ra rb rc) := ⟨pe_chain ho ho' ha.run hb.run hc.run hm, se_chain hs hs' ha.snd hb.snd hc.snd⟩
theorem dt_chain {a b c : Expr} {op op' : CmpOp} {r r' : R2} {g g' : D → D → Option D} {ta tb tc : TE} {ra rb rc : RE} (hs : OpS X.K r g) (ho : OpR X (compareOp op) r) (hs' : OpS X.K r' g') (ho' : OpR X (compareOp op') r') (ha : DE F E X fr a ta ra) (hb : DE F E X fr b tb rb) (hc : DE F E X fr c tc rc)
    (hm : lastMarks [op, op'] [b, c] = false := by with_unfolding_all rfl) : DT F E X (.Compare a [op, op'] [b, c] pos) (tTest (tChain r r' ta tb tc)) (rTst (rChain g g' ra rb rc)) := ⟨pt_chain ho ho' ha.run hb.run hc.run hm, st_of (se_chain hs hs' ha.snd hb.snd hc.snd)⟩
/-! ### -x -/
def rUn (g : D → Option D) (ra : RE) : RE := fun ρ => bnd (ra ρ) fun x => okO (g x)
def negD : D → Option D
  | .int i => some (.int (-i))
  | _ => none
theorem de_neg {a : Expr} {ta : TE} {ra : RE} (ha : DE F E X fr a ta ra) : DE F E X fr (.UnaryOp .USub a pos) (tUn (rU fun i => .int (-i)) ta) (rUn negD ra) := ⟨pe_un un_neg ha.run, ⟨fun {H0 Z O σ H ρ o Q} hh e er k => ha.snd.bnd hh e er fun x v H1 e1 x1 hh1 d1 => by
  obtain ⟨d, e3, rfl⟩ := okO_eq e1
  unfold negD at e3
  split at e3
  · cases e3
    exact ⟨_, dp_int d1, k _ _ H1 rfl x1 (.int _)⟩
  · cases e3⟩⟩
/-! ### x[i] -/
def ixD : D → D → Option D
  | .list xs, .int i => atI xs i
  | .tuple xs, .int i => atI xs i
  | .dict kvs, .int i => atI (kvs.map (·.1)) i
  | .str z, .int i => if z.length ≤ 1000000 then (atI z.cps.toList i).map fun c => .str ⟨#[c]⟩ else none
  | _, _ => none
theorem dps_atI {H : Hp} {vs : List V} {ds : List D} {i : Int} {d : D} (h : FitAll K H vs ds) (e : atI ds i = some d) : ∃ v, atI vs i = some v ∧ Fit K H v d := by
  unfold atI at e ⊢
  rw [FitAll.len h]
  obtain ⟨j, e1, e2⟩ := Option.bind_eq_some_iff.mp e
  obtain ⟨v, e3, e4⟩ := FitAll.get h e2
  exact ⟨v, by rw [e1]; exact e3, e4⟩
theorem os_ix : OpS K (rIx K) ixD := ⟨fun {F O fr H x y a b d Q} nb h1 h2 e k => by
  unfold ixD at e
  split at e
  · obtain ⟨p, vs, rfl, s1, t1⟩ := dp_lst h1
    obtain ⟨v, e1, e2⟩ := dps_atI t1 e
    exact .inl ⟨p, vs, _, v, rfl, dp_int h2, .inl (rd_mono hp_le s1), e1, k _ H (Ext.refl _ _) e2⟩
  · obtain ⟨p, vs, rfl, s1, t1⟩ := dp_tup h1
    obtain ⟨v, e1, e2⟩ := dps_atI t1 e
    exact .inr (.inl ⟨p, vs, _, v, rfl, dp_int h2, sqt_mono hp_le s1, e1, k _ H (Ext.refl _ _) e2⟩)
  · cases h1 with
    | ro s1 t1 =>
      rw [ro_items] at e
      obtain ⟨v, e1, e2⟩ := dps_atI t1 e
      exact .inl ⟨_, _, _, v, rfl, dp_int h2, hp_le.seq s1, e1, k _ H (Ext.refl _ _) e2⟩
  · split at e
    · rename_i c
      obtain ⟨s, e1, rfl⟩ := Option.map_eq_some_iff.mp e
      exact .inr (.inr ⟨_, _, s, dp_str h1, dp_int h2, szMe c, e1, k _ H (Ext.refl _ _) (.str _)⟩)
    · cases e
  · cases e⟩
theorem de_ix {a b : Expr} {ta tb : TE} {ra rb : RE} (ha : DE F E X fr a ta ra) (hb : DE F E X fr b tb rb) (hs : PlainIx b := by exact fun _ _ => rfl) : DE F E X fr (.Subscript a b pos) (tOp (rIx X.K) ta tb) (rOp ixD ra rb) := ⟨pe_ix ix_seq ha.run hb.run hs, se_op os_ix ha.snd hb.snd⟩
/-! ### x[lo:hi] -/
abbrev RO := En → R (Option Int)
structure SO (K : PySem.W.Frag) (F : Fx) (E : XK) (t : TO) (r : RO) : Prop where
  go : ∀ {H0 Z O σ H ρ o} {Q : Option Int → Hp → Prop}, Holds K F H0 Z O σ H ρ → r ρ = some o → Err F E H o → (∀ d H', o = .ok d → Ext F H H' → Q d H') → t σ H Q
structure DO (F : Fx) (E : XK) (X : Cx) (e : Option Expr) (t : TO) (r : RO) : Prop where
  run : PO X e t
  snd : SO X.K F E t r
def rNoP : RO := fun _ => some (.ok none)
def rPart (r : RE) : RO := fun ρ => bnd (r ρ) fun d => match d with
  | .int i => some (.ok (some i))
  | _ => none
theorem do_none : DO F E X none tNoPart rNoP := ⟨po_none, ⟨fun {H0 Z O σ H ρ o Q} hh e er k => by cases e; exact k _ H rfl (Ext.refl _ _)⟩⟩
theorem do_some {e : Expr} {te : TE} {r : RE} (h : DE F E X fr e te r) : DO F E X (some e) (tPart te) (rPart r) := ⟨po_some h.run, ⟨fun {H0 Z O σ H ρ o Q} hh e er k => h.snd.bnd hh e er fun d v H1 e1 x1 hh1 d1 => by
  cases d with
  | int i => cases e1; exact ⟨i, dp_int d1, k _ H1 rfl x1⟩
  | _ => cases e1⟩⟩
theorem SO.bnd {t : TO} {r : RO} (h : SO K F E t r) {H0 Z O σ H ρ} (hh : Holds K F H0 Z O σ H ρ) {β : Type} {g : Option Int → R β} {o : Except Cn β} {Q : Option Int → Hp → Prop} (e : DL.bnd (r ρ) g = some o) (er : Err F E H o)
    (k : ∀ b H1, g b = some o → Ext F H H1 → Holds K F H0 Z O σ H1 ρ → Q b H1) : t σ H Q := by
  rcases bnd_cases e with ⟨a, e1, e2⟩ | ⟨c, e1, e2⟩
  · exact h.go hh e1 Err.ok fun d H' q x => by cases q; exact k a H' e2 x (hh.go x)
  · subst e2; exact h.go hh e1 er.to fun d H' q => nomatch q
def cutL {α : Type} (xs : List α) (lo hi : Option Int) : List α := (xs.drop (HT.sIx xs.length 0 lo)).take (HT.sIx xs.length xs.length hi - HT.sIx xs.length 0 lo)
def cutD (d : D) (lo hi : Option Int) : Option D := match d with
  | .list xs => some (.list (cutL xs lo hi))
  | .tuple xs => some (.tuple (cutL xs lo hi))
  | .str z => if z.length ≤ 1000000 then some (.str (cutS z lo hi)) else none
  | _ => none
theorem dps_cut {H : Hp} {vs : List V} {ds : List D} (h : FitAll K H vs ds) (lo hi : Option Int) : FitAll K H (cutV vs lo hi) (cutL ds lo hi) := by
  unfold cutV cutL
  rw [FitAll.len h]
  exact FitAll.take _ (FitAll.drop _ h)
def rSlc (re : RE) (rl rh : RO) : RE := fun ρ => bnd (re ρ) fun d => bnd (rl ρ) fun lo => bnd (rh ρ) fun hi => okO (cutD d lo hi)
abbrev rSlQ (K : PySem.W.Frag) : V → Option Int → Option Int → Hp → VK → Prop := fun x lo hi H Q => rSlL K x lo hi H Q ∨ rSlA K x lo hi H Q ∨ rSlS x lo hi H Q
theorem de_slice {e : Expr} {lo hi : Option Expr} {p2 : Pos} {te : TE} {tl th : TO} {re : RE} {rl rh : RO} (he : DE F E X fr e te re) (hl : DO F E X lo tl rl) (hu : DO F E X hi th rh) : DE F E X fr (.Subscript e (.Slice lo hi none p2) pos) (tSl (rSlQ X.K) te tl th) (rSlc re rl rh) :=
  ⟨pe_slice (sl_list.or (sl_tupA.or sl_str)) he.run hl.run hu.run, ⟨fun {H0 Z O σ H ρ o Q} hh e er k => he.snd.bnd hh e er fun d v H1 e1 x1 hh1 d1 => hl.snd.bnd hh1 e1 (er.go x1) fun lo H2 e2 x2 hh2 => hu.snd.bnd hh2 e2 (er.go (x1.trans x2)) fun hi H3 e3 x3 hh3 => by
    obtain ⟨d', e4, rfl⟩ := okO_eq e3
    have xx := (x1.trans x2).trans x3
    have d3 := dp_mono (hp_ext (x2.trans x3)) d1
    unfold cutD at e4
    split at e4
    · cases e4
      obtain ⟨p, vs, rfl, s1, t1⟩ := dp_lst d3
      exact .inl ⟨p, vs, rfl, .inl (rd_mono hp_le s1), fun q n => k _ _ _ rfl (xx.trans (ext_new n _)) (dp_newL n (hh3.fresh n) (dps_cut t1 lo hi))⟩
    · cases e4
      obtain ⟨p, vs, rfl, s1, t1⟩ := dp_tup d3
      refine .inr (.inl ⟨p, vs, rfl, sqt_mono hp_le s1, fun c => ?_, fun _ q n => k _ _ _ rfl (xx.trans (ext_new n _)) (dp_newT n (hh3.fresh n) (dps_cut t1 lo hi))⟩)
      have z := dps_cut t1 lo hi
      unfold cutV at z
      rw [c.1, c.2, List.drop_zero, Nat.sub_zero, List.take_length] at z
      exact k _ _ H3 rfl xx (.tup s1 z)
    · split at e4
      · rename_i c
        cases e4
        exact .inr (.inr ⟨_, dp_str d3, szMe c, k _ _ H3 rfl xx (.str _)⟩)
      · cases e4
    · cases e4⟩⟩
/-! ### built-ins -/
def lenD : List D → Option D
  | [.list ds] => some (.int (ds.length : Nat))
  | [.tuple ds] => some (.int (ds.length : Nat))
  | [.dict kvs] => some (.int (kvs.length : Nat))
  | [.str z] => if z.length ≤ 1000000 then some (.int (z.length : Nat)) else none
  | _ => none
theorem dps1 {H : Hp} {vs : List V} {d : D} (h : FitAll K H vs [d]) : ∃ v, vs = [v] ∧ Fit K H v d := by
  cases h with
  | cons a b => cases b; exact ⟨_, rfl, a⟩
theorem dps2 {H : Hp} {vs : List V} {d e : D} (h : FitAll K H vs [d, e]) : ∃ v w, vs = [v, w] ∧ Fit K H v d ∧ Fit K H w e := by
  cases h with
  | cons a b => obtain ⟨w, rfl, q⟩ := dps1 b; exact ⟨_, w, rfl, a, q⟩
abbrev rLenQ (K : PySem.W.Frag) : List V → Hp → VK → Prop := fun xs H Q => (∃ p ys, xs = [.ref p] ∧ (SqL K H p ys ∨ SqT K H p ys) ∧ Q (.int ys.length) H) ∨ ∃ z, xs = [.str z] ∧ z.length ≤ sizeLine ∧ Q (.int z.length) H
theorem cs_len : ClS K (rLenQ K) lenD := ⟨fun {F O fr H vs ds d Q} nb h e k => by
  unfold lenD at e
  split at e
  · cases e
    obtain ⟨v, rfl, q⟩ := dps1 h
    obtain ⟨p, vs, rfl, s1, t1⟩ := dp_lst q
    rw [← FitAll.len t1] at k
    exact .inl ⟨p, vs, rfl, .inl (.inl (rd_mono hp_le s1)), k _ H (Ext.refl _ _) (.int _)⟩
  · cases e
    obtain ⟨v, rfl, q⟩ := dps1 h
    obtain ⟨p, vs, rfl, s1, t1⟩ := dp_tup q
    rw [← FitAll.len t1] at k
    exact .inl ⟨p, vs, rfl, .inr (sqt_mono hp_le s1), k _ H (Ext.refl _ _) (.int _)⟩
  · cases e
    obtain ⟨v, rfl, q⟩ := dps1 h
    cases q with
    | ro s1 t1 =>
      rw [List.length_map, ← FitAll.len t1] at k
      exact .inl ⟨_, _, rfl, .inl (hp_le.seq s1), k _ H (Ext.refl _ _) (.int _)⟩
  · split at e
    · rename_i c
      cases e
      obtain ⟨v, rfl, q⟩ := dps1 h
      exact .inr ⟨_, by rw [dp_str q], szMe c, k _ H (Ext.refl _ _) (.int _)⟩
    · cases e
  · cases e⟩
theorem call_lenQ : CallR X (.builtin "len") (rLenQ X.K) := call_len_seq.or call_len_str
theorem de_len {e : Expr} {p : Pos} {t : TA} {rs : RA} (hm : X.mg "len" = none) (ha : DA F E X fr [e] t rs) (hg : Gl X "len" := by rfl) (he : starEach [e] X.env = (false, eval e X.env) :: starEach [] X.env := by rfl) (hpl : (backTo pos (starEach [] X.env)).any (·.1) = false := by rfl) {fs : Bool} :
    DE F E X fs (.Call (.Name "len" p) [e] [] pos) (tCB (rLenQ X.K) t) (rFlat (rCl lenD rs)) := de_flat (de_callB cs_len call_lenQ hm PySem.boot_len ha hg (by decide) (by decide) he hpl)
def boolsD : List D → Option (List Bool)
  | [] => some []
  | .bool b :: ds => (boolsD ds).map (b :: ·)
  | _ :: _ => none
def allD : List D → Option D
  | [.list ds] => (boolsD ds).map fun bs => .bool (bs.all id)
  | _ => none
theorem dps_bools {H : Hp} : ∀ {vs : List V} {ds : List D} {bs : List Bool}, FitAll K H vs ds → boolsD ds = some bs → vs = bs.map V.bl
  | _, [], _, .nil, e => by cases e; rfl
  | _, .bool b :: ds, bs, .cons h t, e => by
    obtain ⟨cs, e1, rfl⟩ := Option.map_eq_some_iff.mp (show (boolsD ds).map (b :: ·) = some bs from e)
    rw [dp_bool h, dps_bools t e1]
    rfl
  | _, .none :: _, _, .cons _ _, e => nomatch e
  | _, .int _ :: _, _, .cons _ _, e => nomatch e
  | _, .str _ :: _, _, .cons _ _, e => nomatch e
  | _, .list _ :: _, _, .cons _ _, e => nomatch e
  | _, .tuple _ :: _, _, .cons _ _, e => nomatch e
  | _, .dict _ :: _, _, .cons _ _, e => nomatch e
theorem cs_all : ClS K (rAll K) allD := ⟨fun {F O fr H vs ds d Q} nb h e k => by
  unfold allD at e
  split at e
  · obtain ⟨bs, e1, rfl⟩ := Option.map_eq_some_iff.mp e
    obtain ⟨v, rfl, q⟩ := dps1 h
    obtain ⟨p, vs, rfl, s1, t1⟩ := dp_lst q
    exact ⟨p, bs, rfl, by rw [← dps_bools t1 e1]; exact .inl (rd_mono hp_le s1), k _ H (Ext.refl _ _) (.bl _)⟩
  · cases e⟩
def tupleD : List D → Option D
  | [.list ds] => some (.tuple ds)
  | [.tuple ds] => some (.tuple ds)
  | _ => none
theorem cs_tuple : ClS K (fun xs H Q => ∃ p ys, xs = [.ref p] ∧ ((SqL K H p ys ∧ ∀ l, H l = none → Q (.ref l) (upd H l (.tup ys))) ∨ (SqT K H p ys ∧ Q (.ref p) H))) tupleD := ⟨fun {F O fr H vs ds d Q} nb h e k => by
  unfold tupleD at e
  split at e
  · cases e
    obtain ⟨v, rfl, q⟩ := dps1 h
    obtain ⟨p, vs, rfl, s1, t1⟩ := dp_lst q
    exact ⟨p, vs, rfl, .inl ⟨.inl (rd_mono hp_le s1), fun l n => k _ _ (ext_new n _) (dp_newT n (nb l n) t1)⟩⟩
  · cases e
    obtain ⟨v, rfl, q⟩ := dps1 h
    obtain ⟨p, vs, rfl, s1, t1⟩ := dp_tup q
    exact ⟨p, vs, rfl, .inr ⟨sqt_mono hp_le s1, k _ H (Ext.refl _ _) q⟩⟩
  · cases e⟩
def listD : List D → Option D
  | [.list ds] => some (.list ds)
  | [.tuple ds] => some (.list ds)
  | _ => none
theorem cs_list : ClS K (fun xs H Q => ∃ p ys, xs = [.ref p] ∧ (SqL K H p ys ∨ SqT K H p ys) ∧ ∀ l, H l = none → Q (.ref l) (upd H l (.lst ys))) listD := ⟨fun {F O fr H vs ds d Q} nb h e k => by
  unfold listD at e
  split at e
  · cases e
    obtain ⟨v, rfl, q⟩ := dps1 h
    obtain ⟨p, vs, rfl, s1, t1⟩ := dp_lst q
    exact ⟨p, vs, rfl, .inl (.inl (rd_mono hp_le s1)), fun l n => k _ _ (ext_new n _) (dp_newL n (nb l n) t1)⟩
  · cases e
    obtain ⟨v, rfl, q⟩ := dps1 h
    obtain ⟨p, vs, rfl, s1, t1⟩ := dp_tup q
    exact ⟨p, vs, rfl, .inr (sqt_mono hp_le s1), fun l n => k _ _ (ext_new n _) (dp_newL n (nb l n) t1)⟩
  · cases e⟩
def intD : List D → Option D
  | [.int i] => some (.int i)
  | [.bool b] => some (.int (if b then 1 else 0))
  | _ => none
theorem cs_int : ClS K (fun xs H Q => (∃ i, xs = [.int i] ∧ Q (.int i) H) ∨ ∃ k, xs = [.bl k] ∧ Q (.int (if k then 1 else 0)) H) intD := ⟨fun {F O fr H vs ds d Q} nb h e k => by
  unfold intD at e
  split at e
  · cases e
    obtain ⟨v, rfl, q⟩ := dps1 h
    exact .inl ⟨_, by rw [dp_int q], k _ H (Ext.refl _ _) (.int _)⟩
  · cases e
    obtain ⟨v, rfl, q⟩ := dps1 h
    exact .inr ⟨_, by rw [dp_bool q], k _ H (Ext.refl _ _) (.int _)⟩
  · cases e⟩
def strD : List D → Option D
  | [.int i] => if i.natAbs < 2 ^ 64 then some (.str (Str.ofString (toString i))) else none
  | _ => none
theorem log2_small {n : Nat} (h : n < 2 ^ 64) : n.log2 < 1920 := by
  by_cases z : n = 0
  · subst z; decide
  · have := (Nat.log2_lt z).mpr h
    omega
theorem cs_str : ClS K (fun xs H Q => ∃ i, xs = [.int i] ∧ i.natAbs.log2 < 1920 ∧ Q (.str (toString i)) H) strD := ⟨fun {F O fr H vs ds d Q} nb h e k => by
  unfold strD at e
  split at e
  · split at e
    · rename_i c
      cases e
      obtain ⟨v, rfl, q⟩ := dps1 h
      exact ⟨_, by rw [dp_int q], log2_small c, k _ H (Ext.refl _ _) (.str _)⟩
    · cases e
  · cases e⟩
/-! ### isinstance(x, T) -/
def tyName : D → String
  | .none => "NoneType"
  | .bool _ => "bool"
  | .int _ => "int"
  | .str _ => "str"
  | .list _ => "list"
  | .tuple _ => "tuple"
  | .dict _ => "list"
theorem dp_ty {H : Hp} {v : V} {d : D} (h : Fit K H v d) : TyX K H v (.type (tyName d)) := by
  cases h with
  | non => exact .base .non
  | bl b => exact .base (.bl b)
  | int i => exact .base (.int i)
  | str x => exact .base (.str x)
  | lst a b =>
    rcases a with a | ⟨o, a⟩
    · exact .base (.lst a)
    · exact .base (.frz a)
  | tup a b =>
    rcases a with (a | ⟨o, a⟩) | ⟨o, its, n, a, c, _⟩
    · exact .base (.tup a)
    · exact .fTuple a
    · exact .kTuple a c
  | ro a b =>
    rcases a with (a | ⟨o, a⟩) | ⟨o, its, n, a, c, _⟩
    · exact .base (.lst a)
    · exact .base (.frz a)
    · exact .kList a c
def isiB (T : String) (d : D) : Bool := tyName d == T || (T == "int" && tyName d == "bool")
def rIsI (T : String) (r : RE) : RE := fun ρ => bnd (r ρ) fun d => some (.ok (.bool (isiB T d)))
def isiOk (T : String) : Bool := ["NoneType", "bool", "int", "str", "list", "tuple"].all fun t => kitB t T == some (t == T || (T == "int" && t == "bool"))
theorem de_isi {e : Expr} {T : String} {x : Str} {p p2 : Pos} {te : TE} {r : RE} {fs : Bool} (hT : isiOk T = true) (hm : X.mg "isinstance" = none) (hmT : X.mg x = none) (hv : bootBuiltins x = some (.type T)) (h : DE F E X fs e te r)
    (hb : bootBuiltins "isinstance" = some (.builtin "isinstance") := by decide +kernel)
    (hg : Gl X "isinstance" := by rfl) (hgT : Gl X x := by rfl) (hn : x ≠ "__name__" := by decide) (hdb : (x == ("__debug__" : Str)) = false := by decide)
    (he : starEach [e, .Name x p2] X.env = (false, eval e X.env) :: starEach [.Name x p2] X.env := by rfl) (he2 : starEach [.Name x p2] X.env = (false, eval (.Name x p2) X.env) :: starEach [] X.env := by rfl)
    (hpl : (backTo pos (starEach [.Name x p2] X.env)).any (·.1) = false := by rfl) :
    DE F E X fr (.Call (.Name "isinstance" p) [e, .Name x p2] [] pos) (tCB (rIsi X.K) (tCons te (tCons (tC (.ty T)) tNil))) (rIsI T r) :=
  ⟨pe_callB call_isi hg hm hb (pa_cons h.run (pa_cons (pe_bltn (v := .ty T) hgT hmT hv rfl hn hdb) pa_nil he2) he) (by decide) (by decide) he hpl, ⟨fun {H0 Z O σ H ρ o Q} hh e er k => h.snd.bnd hh e er fun d v H1 e1 x1 hh1 d1 => by
    cases e1
    refine ⟨v, .ty T, .type (tyName d), .type T, isiB T d, rfl, .ty T, dp_ty (dp_mono hp_le d1), kit_ty ?_, k _ _ H1 rfl x1 (.bl _)⟩
    have q : ∀ t, t ∈ ["NoneType", "bool", "int", "str", "list", "tuple"] → kitB t T = some (t == T || (T == "int" && t == "bool")) := fun t ht => eq_of_beq (List.all_eq_true.mp hT t ht)
    cases d with
    | _ => exact q _ (by simp [tyName])⟩⟩
theorem isi_str : isiOk "str" = true := by decide +kernel
theorem isi_tuple : isiOk "tuple" = true := by decide +kernel
theorem isi_int : isiOk "int" = true := by decide +kernel
theorem isi_bool : isiOk "bool" = true := by decide +kernel
theorem isi_list : isiOk "list" = true := by decide +kernel
/-! ### methods of texts without arguments -/
def rM0 (g : D → Option D) (r : RE) : RE := fun ρ => bnd (r ρ) fun d => okO (g d)
def upperD : D → Option D
  | .str z => if z.length ≤ 1000000 then some (.str (Txt.upper z)) else none
  | _ => none
theorem de_upper {o : Expr} {to : TE} {r : RE} {apos : Pos} (h : DE F E X fr o to r) (hbase : attributeBase o "upper" X.env (eval o X.env) = eval o X.env := by rfl) (hline : (apos.endLine == pos.line) = true := by rfl) :
    DE F E X fr (.Call (.Attribute o "upper" apos) [] [] pos) (tM0 (fun x xs H Q => ∃ a, x = .str a ∧ xs = [] ∧ a.length ≤ 5592405 ∧ Q (.str (Txt.upper a)) H) to) (rM0 upperD r) :=
  ⟨pe_m0 PySem.F.slot_str_upper PySem.F.type_str_upper mt_upper h.run hbase hline, ⟨fun {H0 Z O σ H ρ o Q} hh e er k => h.snd.bnd hh e er fun d v H1 e1 x1 hh1 d1 => by
    obtain ⟨d', e3, rfl⟩ := okO_eq e1
    unfold upperD at e3
    split at e3
    · split at e3
      · rename_i c
        cases e3
        have q := dp_str d1
        subst q
        exact ⟨⟨_, rfl⟩, _, rfl, rfl, by omega, k _ _ H1 rfl x1 (.str _)⟩
      · cases e3
    · cases e3⟩⟩
end
end DL
set_option Elab.async false
set_option linter.all false
set_option maxRecDepth 100000
namespace DL
open PySem L2 PyProof.Rows
/-! ### x[::-1] -/
theorem adjust_rev (n : Nat) : Builtin.Slice.sliceAdjust none none (-1) (n : Int) = ((n : Int) - 1, -1) := by
  unfold Builtin.Slice.sliceAdjust
  simp
theorem places_rev (n : Nat) : Builtin.Slice.slicePlaces ((n : Int) - 1) (-1) (-1) = n := by
  unfold Builtin.Slice.slicePlaces
  have h1 : ¬ ((-1 : Int) > 0) := by omega
  simp only [h1, if_false]
  by_cases h : (n : Int) - 1 > -1
  · simp [h]
  · have e : n = 0 := by omega
    subst e
    simp
section
variable {prog : Program} {w : World} {A : Around} {E : Value → Shared → Prop} {s : Shared}
theorem sliceApplied_rev {sl : Addr} {vl vu vk : Value} {n : Nat} {Q : Int × Int × Nat → Shared → Prop} (hs : s.heap.IsSliceOf sl vl vu vk) (pl : IsPart vl none) (pu : IsPart vu none) (pk : IsPart vk (some (-1)))
    (h : Q ((n : Int) - 1, -1, n) s) : wpAny (model prog w) A (Builtin.Slice.sliceApplied (.ref sl) (pure (n : Int))) Q E s := by
  obtain ⟨os, hos, hcs, hds⟩ := id hs
  unfold Builtin.Slice.sliceApplied Builtin.Slice.sliceFields
  refine wpAny_bind (wpAny_bind (wpAny_field hos hds (x := vl) rfl (wpAny_bind (wpAny_field hos hds (x := vu) rfl (wpAny_bind (wpAny_field hos hds (x := vk) rfl (wpAny_pure ?_)))))))
  refine wpAny_bind (HT.slicePart_ pk ?_)
  show wpAny _ _ (if ((-1 : Int) == 0) = true then _ else _) _ _ s
  rw [if_neg (by decide)]
  refine wpAny_bind (HT.slicePart_ pl (wpAny_bind (HT.slicePart_ pu (wpAny_bind (wpAny_pure ?_)))))
  show wpAny _ _ (match Builtin.Slice.sliceAdjust none none (-1) (n : Int) with | (lo, hi) => pure (lo, (-1 : Int), Builtin.Slice.slicePlaces lo hi (-1))) _ _ s
  rw [adjust_rev n]
  show wpAny _ _ (pure ((n : Int) - 1, (-1 : Int), Builtin.Slice.slicePlaces ((n : Int) - 1) (-1) (-1))) _ _ s
  rw [places_rev]
  exact wpAny_pure h
theorem fm_congr {α β : Type} {f g : α → Option β} : ∀ (l : List α), (∀ m ∈ l, f m = g m) → l.filterMap f = l.filterMap g
  | [], _ => rfl
  | a :: l, h => by
    rw [List.filterMap_cons, List.filterMap_cons, h a List.mem_cons_self, fm_congr l fun m hm => h m (List.mem_cons_of_mem _ hm)]
theorem pick_rev (xs : Array Value) : ((List.range xs.size).filterMap fun (m : Nat) => xs[(((xs.size : Nat) : Int) - 1 + (m : Int) * -1).toNat]?).toArray = xs.toList.reverse.toArray := by
  have e : (List.range xs.size).filterMap (fun (m : Nat) => xs[(((xs.size : Nat) : Int) - 1 + (m : Int) * -1).toNat]?) = ((List.range xs.size).map fun k => xs.size - 1 - k).filterMap (xs[·]?) := by
    rw [List.filterMap_map]
    refine fm_congr _ fun m hm => ?_
    have h := List.mem_range.mp hm
    have e2 : (((xs.size : Nat) : Int) - 1 + (m : Int) * -1).toNat = xs.size - 1 - m := by omega
    show xs[_]? = xs[xs.size - 1 - m]?
    rw [e2]
  rw [e, PySem.W.krv_range, List.filterMap_reverse, PySem.W.krv_all]
theorem getItem_tuple_rev {t sl : Addr} {items : Array Value} {vl vu vk : Value} {Q : Value → Shared → Prop} (ht : IsTup s.heap t items) (hs : s.heap.IsSliceOf sl vl vu vk) (pl : IsPart vl none) (pu : IsPart vu none) (pk : IsPart vk (some (-1)))
    (h : Q (.ref s.heap.objs.size) { s with heap := s.heap.push { cls := .type "tuple", data := .seq items.toList.reverse.toArray } })
    (hsz : items.size ≤ sizeLine) : wpAny (model prog w) A (getItem (.ref t) (.ref sl)) Q E s := by
  have htake : sizeOk (.seq items.toList.reverse.toArray) := by
    show items.toList.reverse.toArray.size ≤ sizeLine
    rw [List.size_toArray, List.length_reverse, Array.length_toList]
    exact hsz
  obtain ⟨os, hos, hcs, hds⟩ := id hs
  have hTs : s.TypeIs (.ref sl) "slice" := ⟨os, hos, hcs⟩
  unfold getItem
  try with_reducible refine wpAny_holding ?_
  first | refine wpAny_bind (wpAny_pure ?_) | skip
  refine wpAny_bind (wpAny_sequenceKey ht.typeIs (by decide) ?_)
  refine wpAny_bind (wpAny_callSpecial?_slot (name := Str.ofString "__getitem__") ht.typeIs PyProof.Rows.slot_tuple_getitem
    (wpAny_call_entry PyProof.Rows.slot_tuple_getitem ht.typeIs entry_tuple_getitem ?_ (args_tuple_getitem _ _)))
  show wpAny _ _ (Builtin.Tuple.tupleItemsOf (.ref t) >>= _) _ _ s
  refine wpAny_bind (tupleItemsOf_ ht ?_)
  refine wpAny_bind (wpAny_typeOf hTs ?_)
  rw [if_pos (by decide)]
  refine wpAny_bind (sliceApplied_rev hs pl pu pk ?_)
  have hno : ¬ ((((items.size : Nat) : Int) - 1 == 0 && (-1 : Int) == 1 && items.size == items.size) = true) := by
    intro q
    rw [Bool.and_eq_true, Bool.and_eq_true] at q
    exact absurd q.1.2 (by decide)
  show wpAny _ _ (if (((items.size : Nat) : Int) - 1 == 0 && (-1 : Int) == 1 && items.size == items.size) = true then _ else _) _ _ s
  rw [if_neg hno, pick_rev]
  first
    | exact wpAny_bind (m := Builtin.Tuple.tupleExact _) (wpAny_newObj_type (wpAny_pure ⟨_, rfl, wpAny_pure h⟩) htake)
    | exact wpAny_bind (m := Builtin.Tuple.tupleExact _) (wpAny_newObj_type (wpAny_bind (wpAny_pure (wpAny_pure ⟨_, rfl, wpAny_pure h⟩))) htake)
    | exact wpAny_bind (wpAny_bind (m := Builtin.Tuple.tupleExact _) (wpAny_newObj_type (wpAny_pure (wpAny_pure ⟨_, rfl, wpAny_pure h⟩)) htake))
    | exact wpAny_bind (wpAny_bind (m := Builtin.Tuple.tupleExact _) (wpAny_newObj_type (wpAny_pure ⟨_, rfl, wpAny_pure h⟩) htake))
end
section
variable {X : Cx} {K : PySem.W.Frag}
def revS (z : Str) : Str := ⟨z.cps.toList.reverse.toArray⟩
theorem picked_rev (z : Str) (t : Tok) : ((slicePicked z none none (some (-1, t))).filterMap (z.cps[·]?)).toArray = z.cps.toList.reverse.toArray := by
  have e : slicePicked z none none (some (-1, t)) = sliceRange ((z.length : Int) - 1) (-1) (-1) := by
    unfold slicePicked Builtin.Str.strSliceIndices
    rfl
  rw [e, PySem.W.krv_sliceRange, PySem.W.krv_range, List.filterMap_reverse]
  show ((List.range z.cps.size).filterMap (z.cps[·]?)).reverse.toArray = _
  rw [PySem.W.krv_all]
def rRevQ (K : PySem.W.Frag) : V → Hp → VK → Prop := fun x H Q => (∃ a xs, x = .ref a ∧ SqL K H a xs ∧ ∀ p, H p = none → Q (.ref p) (upd H p (.lst xs.reverse))) ∨ (∃ a xs, x = .ref a ∧ SqT K H a xs ∧ ∀ p, H p = none → Q (.ref p) (upd H p (.tup xs.reverse))) ∨
  ∃ z, x = .str z ∧ z.length ≤ sizeLine ∧ Q (.str (revS z)) H
theorem pe_rev {e : Expr} {te : TE} {k : Nat} {p1 p2 p3 pos : Pos} (he : PE X e te) : PE X (.Subscript e (.Slice none none (some (.UnaryOp .USub (.Constant (.int 1) k p1) p2)) p3) pos) (tUn (rRevQ X.K) te) := by
  refine ⟨fun pins s σ H Q I h => ?_⟩
  refine Subscript_ (thn (he.run pins s σ H _ I h) fun v s1 ⟨x, H1, I1, r1, q1⟩ => ?_)
  have hst : PO X (some (.UnaryOp .USub (.Constant (.int 1) k p1) p2)) (tPart (tUn (rU fun i => .int (-i)) (tC (.int 1)))) := po_some (pe_un un_neg pe_int)
  refine wpAny_Slice (thn (po_none.run pins s1 σ H1 (fun o H2 => o = none ∧ H2 = H1) I1 ⟨rfl, rfl⟩) fun vl s2 ⟨l, H2, I2, pl, el, e2⟩ => ?_)
  subst el e2
  refine thn (po_none.run pins s2 σ H2 (fun o H3 => o = none ∧ H3 = H2) I2 ⟨rfl, rfl⟩) fun vu s3 ⟨u, H3, I3, pu, eu, e3⟩ => ?_
  subst eu e3
  refine thn (hst.run pins s3 σ H3 (fun o H4 => o = some (-1) ∧ H4 = H3) I3 ⟨1, rfl, -1, rfl, rfl, rfl⟩) fun vs s4 ⟨o, H4, I4, ps, eo, e4⟩ => ?_
  subst eo e4
  have I5 : Inv X pins σ H4 { s4 with heap := s4.heap.push { cls := .type "slice", data := .fields #[vl, vu, vs] } } := I4.kept (t' := s4.toks) fun b ob q => Heap.get?_push_of_some _ q
  rcases q1 with ⟨a, xs, ex, hx, q⟩ | ⟨a, xs, ex, hx, q⟩ | ⟨z, ex, hz, q⟩
  · subst ex
    cases r1
    obtain ⟨its, r, ht, hz⟩ := I5.list hx
    have hlen := r.length
    show wpAny (model X.prog X.w) X.A (subscriptTail e (.Slice none none (some (.UnaryOp .USub (.Constant (.int 1) k p1) p2)) p3) (.ref a) (.ref s4.heap.objs.size)) (EP X pins σ Q) X.xe { s4 with heap := s4.heap.push { cls := .type "slice", data := .fields #[vl, vu, vs] } }
    refine tail_any (ops := [.ref a, .ref s4.heap.objs.size]) ht.isList.typeIs (PySem.slot_list_getitem.lookup) ?_ (by with_unfolding_all rfl)
    refine wpAny_getItem_list_slice ht.isList (Heap.IsSliceOf.new _ vl vu vs) pl pu ps (by decide) ?_ (by rw [List.size_toArray]; omega)
    rw [PySem.W.krv_pick]
    refine ⟨.ref _, _, I5.laid (t' := s4.toks) (o := .lst xs.reverse) (fun b ob q => Heap.get?_push_of_some _ q) (Nat.le_refl _) ?_, rfl, q _ (I5.hok.fresh (Nat.le_refl _))⟩
    exact ⟨by rw [List.length_reverse]; exact hz, _, 0, r.reverse, Heap.get?_push_size _ rfl⟩
  · subst ex
    cases r1
    obtain ⟨its, r, ht, hz⟩ := I5.tuple hx
    have hlen := r.length
    show wpAny (model X.prog X.w) X.A (subscriptTail e (.Slice none none (some (.UnaryOp .USub (.Constant (.int 1) k p1) p2)) p3) (.ref a) (.ref s4.heap.objs.size)) (EP X pins σ Q) X.xe { s4 with heap := s4.heap.push { cls := .type "slice", data := .fields #[vl, vu, vs] } }
    refine tail_any (ops := [.ref a, .ref s4.heap.objs.size]) ht.typeIs (PyProof.Rows.slot_tuple_getitem.lookup) ?_ (by with_unfolding_all rfl)
    refine getItem_tuple_rev ht (Heap.IsSliceOf.new _ vl vu vs) pl pu ps ?_ (by rw [List.size_toArray]; omega)
    refine ⟨.ref _, _, I5.laid (t' := s4.toks) (o := .tup xs.reverse) (fun b ob q => Heap.get?_push_of_some _ q) (Nat.le_refl _) ?_, rfl, q _ (I5.hok.fresh (Nat.le_refl _))⟩
    exact ⟨by rw [List.length_reverse]; exact hz, _, r.reverse, ⟨_, Heap.get?_push_size _ rfl, rfl, 0, rfl⟩⟩
  · subst ex
    obtain ⟨t, rfl⟩ := r1
    show wpAny (model X.prog X.w) X.A (subscriptTail e (.Slice none none (some (.UnaryOp .USub (.Constant (.int 1) k p1) p2)) p3) (.str z t) (.ref s4.heap.objs.size)) (EP X pins σ Q) X.xe { s4 with heap := s4.heap.push { cls := .type "slice", data := .fields #[vl, vu, vs] } }
    refine tail_any (ops := [.str z t, .ref s4.heap.objs.size]) (typeIs_str _ _ _) (PySem.F.slot_str_getitem.lookup) ?_ (by with_unfolding_all rfl)
    cases pl
    cases pu
    cases ps with
    | int _ tk =>
      refine wpAny_getItem_str_slice (l := none) (u := none) (st := some (-1, tk)) ⟨_, Heap.get?_push_size _ rfl, rfl, rfl⟩ rfl ?_
      unfold sliceMade
      rw [if_neg (by
        intro q
        rw [Bool.and_eq_true] at q
        have q1 : ((-1 : Int) == 1) = true := q.1
        exact absurd q1 (by decide)), picked_rev]
      refine ⟨?_, .str (revS z), H4, I5.tok _, ⟨_, rfl⟩, q⟩
      show z.cps.toList.reverse.toArray.size ≤ sizeLine
      rw [List.size_toArray, List.length_reverse, Array.length_toList]
      exact hz
variable {F : Fx} {E : XK} {fr : Bool}
def revD : D → Option D
  | .list xs => some (.list xs.reverse)
  | .tuple xs => some (.tuple xs.reverse)
  | .str z => if z.length ≤ 1000000 then some (.str (revS z)) else none
  | _ => none
theorem de_rev {e : Expr} {te : TE} {r : RE} {k : Nat} {p1 p2 p3 pos : Pos} (h : DE F E X fr e te r) : DE F E X fr (.Subscript e (.Slice none none (some (.UnaryOp .USub (.Constant (.int 1) k p1) p2)) p3) pos) (tUn (rRevQ X.K) te) (rUn revD r) :=
  ⟨pe_rev h.run, ⟨fun {H0 Z O σ H ρ o Q} hh e er k => h.snd.bnd hh e er fun d v H1 e1 x1 hh1 d1 => by
    obtain ⟨d', e3, rfl⟩ := okO_eq e1
    unfold revD at e3
    split at e3
    · cases e3
      obtain ⟨p, vs, rfl, s1, t1⟩ := dp_lst d1
      exact .inl ⟨p, vs, rfl, .inl (rd_mono hp_le s1), fun q n => k _ _ _ rfl (x1.trans (ext_new n _)) (dp_newL n (hh1.fresh n) (FitAll.rev t1))⟩
    · cases e3
      obtain ⟨p, vs, rfl, s1, t1⟩ := dp_tup d1
      exact .inr (.inl ⟨p, vs, rfl, sqt_mono hp_le s1, fun q n => k _ _ _ rfl (x1.trans (ext_new n _)) (dp_newT n (hh1.fresh n) (FitAll.rev t1))⟩)
    · split at e3
      · rename_i c
        cases e3
        exact .inr (.inr ⟨_, dp_str d1, szMe c, k _ _ H1 rfl x1 (.str _)⟩)
      · cases e3
    · cases e3⟩⟩
end
end DL
set_option Elab.async false
set_option linter.all false
set_option maxRecDepth 100000
namespace DL
open PySem L2 PyProof.Rows
/-! ### a module's constants -/
def GlobD (K : PySem.W.Frag) (mg : Str → Option Value) (x : Str) (d : D) : Prop := ∃ v u, mg x = some u ∧ RelV v u ∧ ∀ H, Fit K H v d
def tGlob (K : PySem.W.Frag) (d : D) : TE := fun _ H Q => ∀ v, (∀ H, Fit K H v d) → Q v H
theorem de_g {F : Fx} {E : XK} {X : Cx} {fr : Bool} {x : Str} {d : D} {pos : Pos} (h : GlobD X.K X.mg x d) (hg : Gl X x := by rfl) (hd : (x == ("__debug__" : Str)) = false := by decide) : DE F E X fr (.Name x pos) (tGlob X.K d) (rC d) := by
  obtain ⟨v, u, hm, rv, hd'⟩ := h
  refine ⟨⟨fun pins s σ H Q I q => (pe_glob hg hm rv hd).run pins s σ H Q I (q v hd')⟩, ⟨fun {H0 Z O σ H ρ o Q} hh e er k v hv => ?_⟩⟩
  cases e
  exact k d v H rfl (Ext.refl _ _) (hv _)
theorem globS {K : PySem.W.Frag} {mg : Str → Option Value} {x z : Str} {t : Tok} (h : mg x = some (.str z t)) : GlobD K mg x (.str z) := ⟨.str z, _, h, ⟨t, rfl⟩, fun _ => .str z⟩
theorem globI {K : PySem.W.Frag} {mg : Str → Option Value} {x : Str} {z : Int} {t : Tok} (h : mg x = some (.int z t)) : GlobD K mg x (.int z) := ⟨.int z, _, h, ⟨t, rfl⟩, fun _ => .int z⟩
/-- values that are texts -/
def isS (u : Value) (y : Str) : Bool := match u with
  | .str z _ => decide (z = y)
  | _ => false
theorem isS_eq {u : Value} {y : Str} (h : isS u y = true) : ∃ t, u = .str y t := by
  unfold isS at h
  split at h
  · exact ⟨_, by rw [of_decide_eq_true h]⟩
  · cases h
def strsIn : List Value → List Str → Bool
  | [], [] => true
  | u :: us, y :: ys => isS u y && strsIn us ys
  | [], _ :: _ => false
  | _ :: _, [] => false
theorem strsIn_dp {K : PySem.W.Frag} {H : Hp} : ∀ {us : List Value} {ys : List Str}, strsIn us ys = true → Vals (ys.map V.str) us ∧ FitAll K H (ys.map V.str) (ys.map PyData.str)
  | [], [], _ => ⟨.nil, .nil⟩
  | u :: us, y :: ys, h => by
    simp only [strsIn, Bool.and_eq_true] at h
    obtain ⟨t, rfl⟩ := isS_eq h.1
    obtain ⟨a, b⟩ := strsIn_dp (K := K) (H := H) h.2
    exact ⟨.cons ⟨t, rfl⟩ a, .cons (.str y) b⟩
  | [], _ :: _, h => by simp [strsIn] at h
  | _ :: _, [], h => by simp [strsIn] at h
theorem globT {K : PySem.W.Frag} {mg : Str → Option Value} {x : Str} {a : Addr} {od : Option Addr} {us : List Value} {n : Nat} {sl : Array (Option Value)} {ys : List Str} (h : mg x = some (.ref a)) (l : K.lookup a = some ⟨.type "tuple", od, .seq us.toArray n, sl⟩) (hs : strsIn us ys = true) (hn : ys.length ≤ 1000) :
    GlobD K mg x (.tuple (ys.map PyData.str)) := ⟨.ref a, _, h, rfl, fun H => by
  obtain ⟨v, d⟩ := strsIn_dp (K := K) (H := H) hs
  refine .tup (.inr ⟨_, us.toArray, n, l, rfl, rfl, ?_, by simpa using v⟩) d
  have e := v.length
  rw [List.length_map] at e
  rw [List.size_toArray, ← e]
  exact sz1000 hn⟩
theorem hu65 {k : Nat} {A : Around} (hr : Room k A) : A.units + 65 < cLine := by have := hr.un; omega
theorem hu64 {k : Nat} {A : Around} (hr : Room k A) : A.units + 64 < cLine := by have := hr.un; omega
/-! ### the law -/
section
variable {P : Program} {w : World} {K : PySem.W.Frag} {mg : Str → Option Value} {base : Heap} {exc : Cn → Value}
theorem law_ok {x : Str} {st : Stmt} {f : Addr} {fd : FuncData} {N ps : List Str} {k n : Nat} {r : RS} (F : Fun K x x st f fd) (S : FnScope N ps (defScope st)) (hn : ps.length = n)
    (body : ∀ (cdv : Value) (A : Around) (outer : List Env) (s : Shared) (H : Hp) (E : XK) (B : Addr → Prop), Room k (A.deeper (PyProof.Rows.envOfC x (defScope st) s.heap.objs.size f cdv)) →
      ∃ t, DSs (pureF exc B) E (cxOf (L2.CX P w) P w K mg base N x (defScope st) f cdv A outer s H E) (defBody st) t r) : FnOk P w K mg base (L2.CX P w) (k + 1) f fd ps (spD K exc n (fnSem N.length r)) := by
  refine F.okX S (fun vs H Q E h => (spD_len h).trans hn.symm) (fun cdv A outer s H vs Q E hr h => ?_)
  obtain ⟨B, ds, o, hB, hd, hl, he, k1, k2⟩ := h
  obtain ⟨t, dd⟩ := body cdv A outer s H E B hr
  refine ⟨t, dd.run, ?_⟩
  have hle : ds.length ≤ N.length := by
    have z := congrArg List.length S.pre
    rw [List.length_take] at z
    omega
  have hh := holds_start (N := N) hB hd hle
  unfold fnSem at he
  cases c : r (ds.map SV.val ++ List.replicate (N.length - ds.length) SV.no) with
  | none => rw [c] at he; cases he
  | some o1 =>
    rw [c] at he
    refine dd.snd.go hh c ?_
    have same : ∀ {H' : Hp}, Ext (pureF exc B) H H' → Same H H' := fun e a o q => e.keep a o (fun z => z) q
    cases o1 with
    | nx ρ => cases he; exact fun O σ H' h' => k1 _ _ _ rfl (same h'.ext) .non
    | bk ρ => cases he
    | ct ρ => cases he
    | rt d => cases he; exact fun v H' e d' => k1 _ _ _ rfl (same e) d'
    | ex c => cases he; exact fun H' e => k2 _ _ rfl (same e)
/-- what law(script) promises -/
def spLaw (K : PySem.W.Frag) : Sp := fun vs H Q _ => ∃ (a : Addr) (ns : List Int), vs = [.ref a] ∧ SqL K H a (ns.map V.int) ∧ ns.length ≤ 63 ∧ ∀ H', Q (.bl true) H'
def scriptD (ns : List Int) : D := .dict ((ns.map PyData.int).map fun d => (d, d))
theorem law_sp {f : Addr} {fd : FuncData} {ps : List Str} {k : Nat} {m : List D → R D} (G : FnOk P w K mg base (L2.CX P w) k f fd ps (spD K exc 1 m)) (law : ∀ ns : List Int, ns.length ≤ 63 → m [scriptD ns] = some (.ok (.bool true))) :
    FnOk P w K mg base (L2.CX P w) k f fd ps (spLaw K) := G.imp fun vs H Q E h => by
  obtain ⟨a, ns, rfl, hs, hl, q⟩ := h
  refine ⟨fun _ => False, [scriptD ns], .ok (.bool true), fun _ _ z => z, .cons (.ro ?_ (FitAll.ints ns)) .nil, rfl, law ns hl, fun d v H' e s d' => ?_, fun c H' e => nomatch e⟩
  · have s : Same H (hp (pureF exc fun _ => False) [] false H) := fun b o z => hp_some.mpr ⟨fun y => y.elim (fun z => z) fun z => (nomatch z.1), z⟩
    exact s.seq hs
  · cases e
    rw [dp_bool d']
    exact q H'
end
theorem walkD {l : PySem.W.OpenLaw} {k : Nat} {q : Program} {loose : List Str} {XP : (Str → Option Value) → Heap → Prop} {YP : World → Heap → Prop} {d : DefRec} {K : Params → PySem.W.Frag} (hn : l.most = some 63) (hdf : d.params.defaults = []) (hr : Room k callerA)
    (hY : ∀ (w : World) (h : Heap), YP w h → (K w.params).In h)
    (F : ∀ (w : World) (mg : Str → Option Value) (fa : Addr) (h : Heap), (K w.params).In h → h.Ns mainGlobals mg → mg d.name = some (.ref fa) →
      ∃ fd : FuncData, (∀ (s : Shared) (u : Value), BindsTo s fd ⟨[u], []⟩ [("script", u)]) ∧ ∀ base : Heap, (K w.params).In base → base.Ns mainGlobals mg → FnOk l.prog w (K w.params) mg base (L2.CX l.prog w) k fa fd ["script"] (spLaw (K w.params))) :
    PySem.W.WalkO q loose XP YP l.row.toRowW d [] (fun f vs => PySem.call f vs) :=
  L2.walk_of (n := 63) (k := k) (x := "script") (CX := fun w => L2.CX l.prog w) (sp := fun w => spLaw (K w.params)) hn (by decide) hdf hr hY F (fun _ _ a ns hl _ hS => ⟨a, ns, rfl, hS, hl, fun _ => rfl⟩) fun _ _ _ _ _ z => by
    obtain ⟨_, _, _, _, _, _, _, _, _, _, _, _, z⟩ := z
    exact z
end DL
set_option Elab.async false
set_option linter.all false
set_option maxRecDepth 100000
namespace DL
open PySem L2 PyProof.Rows
/-! the meanings, evaluated -/
def condV (d : D) (x y : R D) : R D := match d with
  | .bool true => x
  | .bool false => y
  | _ => none
@[simp] theorem condV_bool (b : Bool) (x y : R D) : condV (.bool b) x y = if b = true then x else y := by cases b <;> rfl
def tstD : D → R Bool
  | .bool b => some (.ok b)
  | _ => none
@[simp] theorem tstD_bool (b : Bool) : tstD (.bool b) = some (.ok b) := rfl
def chV (d : Option D) (x : R D) : R D := match d with
  | some (.bool true) => x
  | some (.bool false) => some (.ok (.bool false))
  | _ => none
@[simp] theorem chV_bool (b : Bool) (x : R D) : chV (some (.bool b)) x = if b = true then x else some (.ok (.bool false)) := by cases b <;> rfl
def retD : Option Out → R D
  | some (.rt d) => some (.ok d)
  | some (.nx _) => some (.ok .none)
  | some (.ex c) => some (.error c)
  | _ => none
@[simp] theorem retD_rt (d : D) : retD (some (.rt d)) = some (.ok d) := rfl
@[simp] theorem retD_nx (ρ : En) : retD (some (.nx ρ)) = some (.ok .none) := rfl
@[simp] theorem retD_ex (c : Cn) : retD (some (.ex c)) = some (.error c) := rfl
@[simp] theorem retD_no : retD none = none := rfl
def seqD (x : Option Out) (q : RS) : Option Out := match x with
  | some (.nx ρ') => q ρ'
  | x => x
@[simp] theorem seqD_nx (ρ : En) (q : RS) : seqD (some (.nx ρ)) q = q ρ := rfl
@[simp] theorem seqD_rt (d : D) (q : RS) : seqD (some (.rt d)) q = some (.rt d) := rfl
@[simp] theorem seqD_ex (c : Cn) (q : RS) : seqD (some (.ex c)) q = some (.ex c) := rfl
@[simp] theorem seqD_ct (ρ : En) (q : RS) : seqD (some (.ct ρ)) q = some (.ct ρ) := rfl
@[simp] theorem seqD_bk (ρ : En) (q : RS) : seqD (some (.bk ρ)) q = some (.bk ρ) := rfl
@[simp] theorem seqD_no (q : RS) : seqD none q = none := rfl
section
variable {α β : Type} {c : Prop} [Decidable c]
@[simp] theorem bnd_ite (a b : R α) (f : α → R β) : bnd (if c then a else b) f = if c then bnd a f else bnd b f := by split <;> rfl
@[simp] theorem toS_ite (a b : R α) (f : α → Option Out) : toS (if c then a else b) f = if c then toS a f else toS b f := by split <;> rfl
@[simp] theorem retD_ite (a b : Option Out) : retD (if c then a else b) = if c then retD a else retD b := by split <;> rfl
@[simp] theorem seqD_ite (a b : Option Out) (q : RS) : seqD (if c then a else b) q = if c then seqD a q else seqD b q := by split <;> rfl
@[simp] theorem okO_ite (a b : Option α) : okO (if c then a else b) = if c then okO a else okO b := by split <;> rfl
end
section
variable (ρ : En)
@[simp] theorem rVar_zero (d : D) : rVar 0 (.val d :: ρ) = some (.ok d) := rfl
@[simp] theorem rVar_succ (i : Nat) (x : SV) : rVar (i + 1) (x :: ρ) = rVar i ρ := rfl
@[simp] theorem rOwn_zero (d : List D) : rOwn 0 (.own d :: ρ) = some (.ok (.list d)) := rfl
@[simp] theorem rOwn_succ (i : Nat) (x : SV) : rOwn (i + 1) (x :: ρ) = rOwn i ρ := rfl
@[simp] theorem rC_ap (d : D) : rC d ρ = some (.ok d) := rfl
@[simp] theorem rOp_ap (g : D → D → Option D) (a b : RE) : rOp g a b ρ = bnd (a ρ) fun x => bnd (b ρ) fun y => okO (g x y) := rfl
@[simp] theorem rUn_ap (g : D → Option D) (a : RE) : rUn g a ρ = bnd (a ρ) fun x => okO (g x) := rfl
@[simp] theorem rM0_ap (g : D → Option D) (a : RE) : rM0 g a ρ = bnd (a ρ) fun x => okO (g x) := rfl
@[simp] theorem rNil_ap : rNil ρ = some (.ok []) := rfl
@[simp] theorem rCons_ap (r : RE) (rs : RA) : rCons r rs ρ = bnd (r ρ) fun d => bnd (rs ρ) fun ds => some (.ok (d :: ds)) := rfl
@[simp] theorem rTup_ap (rs : RA) : rTup rs ρ = bnd (rs ρ) fun ds => if ds.length ≤ 1000 then some (.ok (.tuple ds)) else none := rfl
@[simp] theorem rLst_ap (rs : RA) : rLst rs ρ = bnd (rs ρ) fun ds => if ds.length ≤ 1000 then some (.ok (.list ds)) else none := rfl
@[simp] theorem rCl_ap (g : List D → Option D) (rs : RA) : rCl g rs ρ = bnd (rs ρ) fun ds => okO (g ds) := rfl
@[simp] theorem rCall_ap (n : Nat) (m : List D → R D) (rs : RA) : rCall n m rs ρ = bnd (rs ρ) fun ds => if ds.length = n then m ds else none := rfl
@[simp] theorem rFlat_ap (r : RE) : rFlat r ρ = bnd (r ρ) fun d => if flatD d = true then some (.ok d) else none := rfl
@[simp] theorem rIsI_ap (T : String) (r : RE) : rIsI T r ρ = bnd (r ρ) fun d => some (.ok (.bool (isiB T d))) := rfl
@[simp] theorem rTst_ap (r : RE) : rTst r ρ = bnd (r ρ) tstD := rfl
@[simp] theorem rNt_ap (r : RT) : rNt r ρ = bnd (r ρ) fun b => some (.ok (!b)) := rfl
@[simp] theorem rAnd_ap (a b : RT) : rAnd a b ρ = bnd (a ρ) fun c => if c = true then b ρ else some (.ok false) := rfl
@[simp] theorem rOr_ap (a b : RT) : rOr a b ρ = bnd (a ρ) fun c => if c = true then some (.ok true) else b ρ := rfl
@[simp] theorem rAndV_ap (a b : RE) : rAndV a b ρ = bnd (a ρ) fun d => condV d (b ρ) (some (.ok (.bool false))) := rfl
@[simp] theorem rOrV_ap (a b : RE) : rOrV a b ρ = bnd (a ρ) fun d => condV d (some (.ok (.bool true))) (b ρ) := rfl
@[simp] theorem rNotV_ap (a : RE) : rNotV a ρ = bnd (a ρ) fun d => match d with | .bool b => some (.ok (.bool (!b))) | _ => none := rfl
@[simp] theorem rChain_ap (g h : D → D → Option D) (a b c : RE) : rChain g h a b c ρ = bnd (a ρ) fun x => bnd (b ρ) fun y => chV (g x y) (bnd (c ρ) fun z => okO (h y z)) := rfl
@[simp] theorem rIfE_ap (c : RT) (a b : RE) : rIfE c a b ρ = bnd (c ρ) fun k => if k = true then a ρ else b ρ := rfl
@[simp] theorem rSeq_ap (r : RE) : rSeq r ρ = bnd (r ρ) fun d => okO (itemsD d) := rfl
@[simp] theorem rRange1_ap (rs : RA) : rRange1 rs ρ = bnd (rs ρ) fun ds => okO (range1D ds) := rfl
@[simp] theorem rRange2_ap (rs : RA) : rRange2 rs ρ = bnd (rs ρ) fun ds => okO (range2D ds) := rfl
@[simp] theorem rEnum_ap (rs : RA) : rEnum rs ρ = bnd (rs ρ) fun ds => okO (enumD ds) := rfl
@[simp] theorem rNoP_ap : rNoP ρ = some (.ok none) := rfl
@[simp] theorem rPart_ap (r : RE) : rPart r ρ = bnd (r ρ) fun d => match d with | .int i => some (.ok (some i)) | _ => none := rfl
@[simp] theorem rSlc_ap (r : RE) (lo hi : RO) : rSlc r lo hi ρ = bnd (r ρ) fun d => bnd (lo ρ) fun l => bnd (hi ρ) fun h => okO (cutD d l h) := rfl
@[simp] theorem rYes_ap : rYes ρ = some (.ok true) := rfl
@[simp] theorem rgName_ap (i : Nat) (d : D) : rgName i d ρ = some (ρ.set i (.val d)) := rfl
theorem rLc_ap (ri : RA) (rg : RG) (rt : RT) (re : RE) (vs : List Nat) : rLc ri rg rt re vs ρ = bnd (ri ρ) fun ds => if ds.length ≤ 1000000 ∧ vs.all (noOwn ρ) = true then (match lcL rg rt re (wipeR ρ vs) ds with | some es => some (.ok (.list es)) | none => none) else none := rfl
@[simp] theorem sNil_ap : sNil ρ = some (.nx ρ) := rfl
@[simp] theorem sSeq_ap (r q : RS) : sSeq r q ρ = seqD (r ρ) q := rfl
@[simp] theorem sExpr_ap (r : RE) : sExpr r ρ = toS (r ρ) fun _ => some (.nx ρ) := rfl
@[simp] theorem sRet_ap (r : RE) : sRet r ρ = toS (r ρ) fun d => some (.rt d) := rfl
@[simp] theorem sSet_ap (i : Nat) (r : RE) : sSet i r ρ = toS (r ρ) fun d => some (.nx (ρ.set i (.val d))) := rfl
@[simp] theorem sIf_ap (c : RT) (r q : RS) : sIf c r q ρ = toS (c ρ) fun b => if b = true then r ρ else q ρ := rfl
@[simp] theorem sFor_ap (ri : RA) (rg : RG) (rb : RS) : sFor ri rg rb ρ = toS (ri ρ) fun ds => forL rg rb ds ρ := rfl
@[simp] theorem sAsg_ap (r : RE) (rg : RG) : sAsg r rg ρ = toS (r ρ) fun d => (rg d ρ).map .nx := rfl
@[simp] theorem rgTup_ap (n : Nat) (rs : RGs) (ds : List D) : rgTup n rs (.tuple ds) ρ = if ds.length = n then rs ds ρ else none := rfl
@[simp] theorem rgNil_ap : rgNil [] ρ = some ρ := rfl
@[simp] theorem rgCons_ap (r : RG) (rs : RGs) (d : D) (ds : List D) : rgCons r rs (d :: ds) ρ = (r d ρ).bind fun ρ1 => rs ds ρ1 := rfl
@[simp] theorem sRaise_ap (c : Cn) : sRaise c ρ = some (.ex c) := rfl
@[simp] theorem sCont_ap : sCont ρ = some (.ct ρ) := rfl
@[simp] theorem forL_nil (rg : RG) (rb : RS) : forL rg rb [] ρ = some (.nx ρ) := rfl
theorem forL_cons (rg : RG) (rb : RS) (d : D) (ds : List D) : forL rg rb (d :: ds) ρ = (match rg d ρ with | none => none | some ρ1 => match rb ρ1 with | some (.nx ρ2) => forL rg rb ds ρ2 | some (.ct ρ2) => forL rg rb ds ρ2 | some (.bk ρ2) => some (.nx ρ2) | some (.rt d) => some (.rt d) | some (.ex c) => some (.ex c) | none => none) := rfl
end
@[simp] theorem wipeR_nil (ρ : En) : wipeR ρ [] = ρ := rfl
@[simp] theorem wipeR_cons (ρ : En) (v : Nat) (vs : List Nat) : wipeR ρ (v :: vs) = (wipeR ρ vs).set v .no := rfl
@[simp] theorem noOwn_zero_val (d : D) (ρ : En) : noOwn (.val d :: ρ) 0 = true := rfl
@[simp] theorem noOwn_zero_no (ρ : En) : noOwn (.no :: ρ) 0 = true := rfl
@[simp] theorem noOwn_succ (x : SV) (ρ : En) (i : Nat) : noOwn (x :: ρ) (i + 1) = noOwn ρ i := rfl
theorem fnSem_ap (N : Nat) (r : RS) (ds : List D) : fnSem N r ds = retD (r (ds.map SV.val ++ List.replicate (N - ds.length) SV.no)) := rfl
/-- a comprehension without a test -/
theorem lc_map {rg : RG} {re : RE} {ρ : En} {f : D → D} : ∀ {ds : List D}, (∀ d ∈ ds, ∃ ρ1, rg d ρ = some ρ1 ∧ re ρ1 = some (.ok (f d))) → lcL rg rYes re ρ ds = some (ds.map f)
  | [], _ => rfl
  | d :: ds, h => by
    obtain ⟨ρ1, e1, e2⟩ := h d List.mem_cons_self
    have ih := lc_map (ds := ds) fun d hd => h d (List.mem_cons_of_mem _ hd)
    simp [lcL, e1, e2, ih]
theorem lc_filter {rg : RG} {rt : RT} {re : RE} {ρ : En} {p : D → Bool} {f : D → D} : ∀ {ds : List D}, (∀ d ∈ ds, ∃ ρ1, rg d ρ = some ρ1 ∧ rt ρ1 = some (.ok (p d)) ∧ (p d = true → re ρ1 = some (.ok (f d)))) → lcL rg rt re ρ ds = some ((ds.filter p).map f)
  | [], _ => rfl
  | d :: ds, h => by
    obtain ⟨ρ1, e1, e2, e3⟩ := h d List.mem_cons_self
    have ih := lc_filter (ds := ds) fun d hd => h d (List.mem_cons_of_mem _ hd)
    cases c : p d with
    | true => rw [c] at e2; simp [lcL, e1, e2, e3 c, ih, c]
    | false => rw [c] at e2; simp [lcL, e1, e2, ih, c]
theorem bools_map (f : D → Bool) : ∀ ds : List D, boolsD (ds.map fun d => .bool (f d)) = some (ds.map f)
  | [] => rfl
  | d :: ds => by simp [boolsD, bools_map f ds]
theorem all_map (f : D → Bool) (ds : List D) : allD [.list (ds.map fun d => .bool (f d))] = some (.bool (ds.all f)) := by
  simp only [allD, bools_map, Option.map_some]
  congr 2
  rw [List.all_map]
  rfl
@[simp] theorem ltD_int (i j : Int) : ltD (.int i) (.int j) = some (.bool (decide (i < j))) := rfl
@[simp] theorem leD_int (i j : Int) : leD (.int i) (.int j) = some (.bool (decide (i ≤ j))) := rfl
@[simp] theorem gtD_int (i j : Int) : gtD (.int i) (.int j) = some (.bool (decide (j < i))) := rfl
@[simp] theorem geD_int (i j : Int) : geD (.int i) (.int j) = some (.bool (decide (j ≤ i))) := rfl
@[simp] theorem addD_int (i j : Int) : addD (.int i) (.int j) = some (.int (i + j)) := rfl
@[simp] theorem subD_int (i j : Int) : subD (.int i) (.int j) = some (.int (i - j)) := rfl
@[simp] theorem negD_int (i : Int) : negD (.int i) = some (.int (-i)) := rfl
@[simp] theorem lenD_tup (ds : List D) : lenD [.tuple ds] = some (.int (ds.length : Nat)) := rfl
@[simp] theorem lenD_lst (ds : List D) : lenD [.list ds] = some (.int (ds.length : Nat)) := rfl
@[simp] theorem flat_int (i : Int) : flatD (.int i) = true := rfl
@[simp] theorem flat_bool (i : Bool) : flatD (.bool i) = true := rfl
@[simp] theorem flat_str (i : Str) : flatD (.str i) = true := rfl
@[simp] theorem flat_none : flatD .none = true := rfl
@[simp] theorem tupleD_lst (ds : List D) : tupleD [.list ds] = some (.tuple ds) := rfl
@[simp] theorem tupleD_tup (ds : List D) : tupleD [.tuple ds] = some (.tuple ds) := rfl
@[simp] theorem itemsD_tup (ds : List D) : itemsD (.tuple ds) = some ds := rfl
@[simp] theorem itemsD_lst (ds : List D) : itemsD (.list ds) = some ds := rfl
@[simp] theorem itemsD_str (z : Str) : itemsD (.str z) = some (z.cps.toList.map fun c => .str ⟨#[c]⟩) := rfl
@[simp] theorem isi_tt (ds : List D) : isiB "tuple" (.tuple ds) = true := by simp [isiB, tyName]
@[simp] theorem isi_tl (ds : List D) : isiB "tuple" (.list ds) = false := by simp [isiB, tyName]
theorem isi_ts (z : Str) : isiB "tuple" (.str z) = false := by simp [isiB, tyName]
theorem shaped_int (i : Int) : SeqAt.shaped (.int i) = true := rfl
theorem shaped_bool (i : Bool) : SeqAt.shaped (.bool i) = true := rfl
theorem shaped_none : SeqAt.shaped .none = true := rfl
@[simp] theorem eqD_int (i j : Int) : eqD (.int i) (.int j) = some (.bool (decide (i = j))) := by
  simp [eqD, SeqAt.shaped, PyData.canLay0, PyData.depth, PyData.eqv, Bool.beq_eq_decide_eq]
@[simp] theorem neD_int (i j : Int) : neD (.int i) (.int j) = some (.bool (!decide (i = j))) := by
  simp [neD, SeqAt.shaped, PyData.canLay0, PyData.depth, PyData.eqv, Bool.beq_eq_decide_eq]
theorem shaped_str {z : Str} (h : PyData.strOk z = true) : SeqAt.shaped (.str z) = true := by
  simp [SeqAt.shaped, PyData.canLay0, PyData.depth, h]
end DL
set_option Elab.async false
set_option linter.all false
set_option maxRecDepth 100000
namespace DL
open PySem L2 PyProof.Rows
/-! ### lists in lists on a stack: what tree_of does -/
abbrev Fr := Str × List (List D)
inductive Pts (K : PySem.W.Frag) (H G : Hp) : List Addr → List (List D) → Prop
  | nil : Pts K H G [] []
  | cons {a : Addr} {as : List Addr} {vs : List V} {ds : List D} {dss : List (List D)} : H a = some (.lst vs) → FitAll K G vs ds → Pts K H G as dss → Pts K H G (a :: as) (ds :: dss)
inductive Stk (K : PySem.W.Frag) (H G : Hp) : List Addr → List Addr → List Fr → Prop
  | nil : Stk K H G [] [] []
  | cons {t P : Addr} {as ts M : List Addr} {nm : Str} {dss : List (List D)} {fs : List Fr} : H t = some (.tup [.str nm, .ref P]) → H P = some (.lst (as.reverse.map V.ref)) → Pts K H G as dss → Stk K H G ts M fs → Stk K H G (t :: ts) (P :: (as ++ M)) ((nm, dss) :: fs)
theorem Pts.go {K : PySem.W.Frag} {H G H' G' : Hp} {as : List Addr} {dss : List (List D)} (h : Pts K H G as dss) (k : ∀ a ∈ as, ∀ o, H a = some o → H' a = some o) (s : Same G G') : Pts K H' G' as dss := by
  induction h with
  | nil => exact .nil
  | cons h1 h2 h3 ih => exact .cons (k _ List.mem_cons_self _ h1) (dps_mono s h2) (ih fun a ha => k a (List.mem_cons_of_mem _ ha))
theorem Stk.go {K : PySem.W.Frag} {H G H' G' : Hp} {ts M : List Addr} {fs : List Fr} (h : Stk K H G ts M fs) (k : ∀ a ∈ M, ∀ o, H a = some o → H' a = some o) (kt : ∀ t xs, H t = some (.tup xs) → H' t = some (.tup xs)) (s : Same G G') : Stk K H' G' ts M fs := by
  induction h with
  | nil => exact .nil
  | cons h1 h2 h3 h4 ih =>
    refine .cons (kt _ _ h1) (k _ List.mem_cons_self _ h2) (h3.go (fun a ha => k a (List.mem_cons_of_mem _ (List.mem_append_left _ ha))) s) (ih fun a ha => k a (List.mem_cons_of_mem _ (List.mem_append_right _ ha)))
theorem Pts.len {K : PySem.W.Frag} {H G : Hp} {as : List Addr} {dss : List (List D)} (h : Pts K H G as dss) : as.length = dss.length := by
  induction h with
  | nil => rfl
  | cons _ _ _ ih => exact congrArg (· + 1) ih
theorem Stk.len {K : PySem.W.Frag} {H G : Hp} {ts M : List Addr} {fs : List Fr} (h : Stk K H G ts M fs) : ts.length = fs.length := by
  induction h with
  | nil => rfl
  | cons _ _ _ _ ih => exact congrArg (· + 1) ih
theorem Pts.lt {K : PySem.W.Frag} {H G : Hp} {as : List Addr} {dss : List (List D)} (h : Pts K H G as dss) : ∀ a ∈ as, ∃ xs, H a = some (.lst xs) := by
  induction h with
  | nil => exact fun a ha => nomatch ha
  | cons q1 q2 q3 ih =>
    intro a ha
    rcases List.mem_cons.mp ha with rfl | ha
    · exact ⟨_, q1⟩
    · exact ih a ha
theorem Stk.lt {K : PySem.W.Frag} {H G : Hp} {ts M : List Addr} {fs : List Fr} (h : Stk K H G ts M fs) : ∀ a ∈ M, ∃ xs, H a = some (.lst xs) := by
  induction h with
  | nil => exact fun a ha => nomatch ha
  | cons h1 h2 h3 h4 ih =>
    intro a ha
    rcases List.mem_cons.mp ha with rfl | ha
    · exact ⟨_, h2⟩
    · rcases List.mem_append.mp ha with ha | ha
      · exact h3.lt a ha
      · exact ih a ha
/-- the data of a popped frame's parts -/
theorem Pts.fit {K : PySem.W.Frag} {H G : Hp} {as : List Addr} {dss : List (List D)} (h : Pts K H G as dss) (k : ∀ a ∈ as, ∀ o, H a = some o → G a = some o) : FitAll K G (as.map V.ref) (dss.map PyData.list) := by
  induction h with
  | nil => exact .nil
  | cons h1 h2 h3 ih => exact .cons (.lst (Rd.of (k _ List.mem_cons_self _ h1)) h2) (ih fun a ha => k a (List.mem_cons_of_mem _ ha))
theorem Holds.sw {K : PySem.W.Frag} {F F' : Fx} {H0 Z G H : Hp} {O : List (Option Addr)} {σ : L2.St} {ρ : En} (h : Holds K F H0 Z O σ G ρ) (nO : ∀ a, some a ∉ O) (up : Same (hp F O true G) (hp F' O true H)) (ex : Ext F' H0 H) (bx : ∀ a, F'.bad a → H a ≠ none) (iv : F'.inv H := by exact trivial) : Holds K F' H0 Z O σ H ρ where
  len := h.len
  olen := h.olen
  val := fun i d q => let ⟨v, a, b⟩ := h.val i d q; ⟨v, a, dp_mono up b⟩
  own := fun i ds q => let ⟨a, vs, x, y, z, w⟩ := h.own i ds q; absurd (List.mem_of_getElem? x) (nO a)
  raw := h.raw
  dic := fun i d q => let ⟨v, a, b⟩ := h.dic i d q; ⟨v, a, dic_mono up b⟩
  inj := h.inj
  new := fun a q => absurd q (nO a)
  bex := bx
  ext := ex
  frz := h.frz.trans up
  oin := h.oin
  ok := iv
def FL (exc : Cn → Value) (B : Addr → Prop) (L : List Addr) : Fx := pureF exc fun a => B a ∨ a ∈ L
/-- the state while the stack lives in slot i -/
structure Nst (K : PySem.W.Frag) (exc : Cn → Value) (B : Addr → Prop) (i : Nat) (H0 Z : Hp) (σ : L2.St) (H : Hp) (ρ : En) (fs : List Fr) (O : List (Option Addr)) (S : Addr) (ts M : List Addr) : Prop where
  hh : Holds K (FL exc B (S :: M)) H0 Z O σ H ρ
  nO : ∀ a, some a ∉ O
  raw : ρ[i]? = some (.raw (.ref S))
  st : H S = some (.lst (ts.reverse.map V.ref))
  stk : Stk K H (hp (FL exc B (S :: M)) O true H) ts M fs
  nd : (S :: M).Nodup
  new : ∀ a ∈ S :: M, H0 a = none ∧ ¬ B a
theorem hp_FL {exc : Cn → Value} {B : Addr → Prop} {L : List Addr} {O : List (Option Addr)} {H : Hp} {a : Addr} {o : HO} (nO : ∀ a, some a ∉ O) : hp (FL exc B L) O true H a = some o ↔ ¬ B a ∧ a ∉ L ∧ H a = some o := by
  rw [hp_some]
  constructor
  · rintro ⟨h1, h2⟩
    exact ⟨fun z => h1 (.inl (.inl z)), fun z => h1 (.inl (.inr z)), h2⟩
  · rintro ⟨h1, h2, h3⟩
    refine ⟨fun z => ?_, h3⟩
    rcases z with (z | z) | ⟨_, z⟩
    · exact h1 z
    · exact h2 z
    · exact nO a z
theorem ext_FL {exc : Cn → Value} {B : Addr → Prop} {L : List Addr} {H0 H : Hp} (s : Same H0 H) : Ext (FL exc B L) H0 H := Ext.of s
theorem Ext.same {exc : Cn → Value} {B : Addr → Prop} {L : List Addr} {H0 H : Hp} (e : Ext (FL exc B L) H0 H) : Same H0 H := fun a o h => e.keep a o (fun z => z) h
section
variable {K : PySem.W.Frag} {exc : Cn → Value} {B : Addr → Prop} {i : Nat} {H0 Z H : Hp} {σ : L2.St} {ρ : En} {fs : List Fr} {O : List (Option Addr)} {S : Addr} {ts M : List Addr}
theorem upd_tup {H : Hp} {a : Addr} {xs ys : List V} {o : HO} {t : Addr} (ha : H a = some (.lst ys)) (h : H t = some (.tup xs)) : upd H a o t = some (.tup xs) := by
  have n : t ≠ a := fun z => by rw [z, ha] at h; cases h
  rw [upd_ne n]
  exact h
theorem Nst.live (N : Nst K exc B i H0 Z σ H ρ fs O S ts M) {a : Addr} (ha : a ∈ S :: M) : ∃ xs, H a = some (.lst xs) := by
  rcases List.mem_cons.mp ha with rfl | ha
  · exact ⟨_, N.st⟩
  · exact N.stk.lt a ha
theorem Nst.hpu (N : Nst K exc B i H0 Z σ H ρ fs O S ts M) {a : Addr} {o : HO} (ha : a ∈ S :: M) : Same (hp (FL exc B (S :: M)) O true H) (hp (FL exc B (S :: M)) O true (upd H a o)) := fun b u h => by
  obtain ⟨h1, h2, h3⟩ := (hp_FL N.nO).mp h
  have n : b ≠ a := fun z => h2 (z ▸ ha)
  exact (hp_FL N.nO).mpr ⟨h1, h2, by rw [upd_ne n]; exact h3⟩
theorem Nst.hmut (N : Nst K exc B i H0 Z σ H ρ fs O S ts M) {a : Addr} {o : HO} (ha : a ∈ S :: M) : Holds K (FL exc B (S :: M)) H0 Z O σ (upd H a o) ρ := by
  refine N.hh.sw N.nO (N.hpu ha) (ext_FL fun b u h => ?_) fun b hb => ?_
  · have n : b ≠ a := fun z => by rw [z, (N.new a ha).1] at h; cases h
    rw [upd_ne n]
    exact N.hh.ext.same b u h
  · by_cases n : b = a
    · rw [n, upd_same]; exact fun z => nomatch z
    · rw [upd_ne n]; exact N.hh.bex b hb
/-- the last part of the top gets one more -/
theorem Nst.line {nm : Str} {ds : List D} {dss : List (List D)} {r : List Fr} {d : D} {v : V} (N : Nst K exc B i H0 Z σ H ρ ((nm, ds :: dss) :: r) O S ts M) (hv : Fit K (hp (FL exc B (S :: M)) O true H) v d) :
    ∃ (t P a : Addr) (ts' as : List Addr) (vs : List V), ts = t :: ts' ∧ H t = some (.tup [.str nm, .ref P]) ∧ H P = some (.lst ((a :: as).reverse.map V.ref)) ∧ H a = some (.lst vs) ∧ vs.length = ds.length ∧ Nst K exc B i H0 Z σ (upd H a (.lst (vs ++ [v]))) ρ ((nm, (ds ++ [d]) :: dss) :: r) O S ts M := by
  obtain ⟨hh, nO, raw, st, stk, nd, new⟩ := id N
  cases stk with
  | @cons t P as ts' M' _ _ _ h1 h2 h3 h4 =>
    cases h3 with
    | @cons a as vs _ _ q1 q2 q3 =>
      have ma : a ∈ S :: P :: (a :: as ++ M') := by simp
      refine ⟨t, P, a, ts', as, vs, rfl, h1, h2, q1, FitAll.len q2, ⟨N.hmut ma, nO, raw, ?_, ?_, nd, new⟩⟩
      · have n : S ≠ a := fun z => (List.nodup_cons.mp nd).1 (by rw [z]; simp)
        rw [upd_ne n]; exact st
      · have up := N.hpu (o := .lst (vs ++ [v])) ma
        have nd1 := (List.nodup_cons.mp nd).2
        have nP : P ≠ a := fun z => (List.nodup_cons.mp nd1).1 (by rw [z]; simp)
        have nd2 : (a :: (as ++ M')).Nodup := (List.nodup_cons.mp nd1).2
        have na := (List.nodup_cons.mp nd2).1
        refine .cons (upd_tup q1 h1) (by rw [upd_ne nP]; exact h2) (.cons upd_same (FitAll.app (dps_mono up q2) (.cons (dp_mono up hv) .nil)) (q3.go (fun b hb u z => ?_) up)) (h4.go (fun b hb u z => ?_) (fun b xs z => upd_tup q1 z) up)
        · have n : b ≠ a := fun z => na (z ▸ List.mem_append_left _ hb)
          rw [upd_ne n]; exact z
        · have n : b ≠ a := fun z => na (z ▸ List.mem_append_right _ hb)
          rw [upd_ne n]; exact z
theorem Nst.to (N : Nst K exc B i H0 Z σ H ρ fs O S ts M) {L' : List Addr} {H' : Hp} (hL : ∀ a ∈ L', a ∈ S :: M ∨ H a = none) (keep : ∀ a o, a ∉ S :: M → H a = some o → H' a = some o) (live : ∀ a, H a ≠ none → H' a ≠ none) (lv : ∀ a ∈ L', H' a ≠ none) :
    Same (hp (FL exc B (S :: M)) O true H) (hp (FL exc B L') O true H') ∧ Holds K (FL exc B L') H0 Z O σ H' ρ := by
  have s : Same (hp (FL exc B (S :: M)) O true H) (hp (FL exc B L') O true H') := fun b u h => by
    obtain ⟨h1, h2, h3⟩ := (hp_FL N.nO).mp h
    refine (hp_FL N.nO).mpr ⟨h1, fun z => ?_, keep b u h2 h3⟩
    rcases hL b z with q | q
    · exact h2 q
    · rw [q] at h3; cases h3
  refine ⟨s, N.hh.sw N.nO s (ext_FL fun b u h => ?_) fun b hb => ?_⟩
  · exact keep b u (fun z => by rw [(N.new b z).1] at h; cases h) (N.hh.ext.same b u h)
  · rcases hb with hb | hb
    · exact live b (N.hh.bex b (.inl hb))
    · exact lv b hb
theorem Nst.fresh (N : Nst K exc B i H0 Z σ H ρ fs O S ts M) {p : Addr} (n : H p = none) : p ∉ S :: M ∧ H0 p = none ∧ ¬ B p := by
  refine ⟨fun z => ?_, ?_, fun z => N.hh.bex p (.inl z) n⟩
  · obtain ⟨xs, q⟩ := N.live z
    rw [q] at n; cases n
  · cases q : H0 p with
    | none => rfl
    | some u => rw [N.hh.ext.same p u q] at n; cases n
theorem live_upd {H : Hp} {p a : Addr} {o : HO} (h : H a ≠ none) : upd H p o a ≠ none := by
  by_cases n : a = p
  · rw [n, upd_same]; exact fun z => nomatch z
  · rw [upd_ne n]; exact h
/-- one more part of the top -/
theorem Nst.next {nm : Str} {dss : List (List D)} {r : List Fr} {p : Addr} (N : Nst K exc B i H0 Z σ H ρ ((nm, dss) :: r) O S ts M) (n : H p = none) :
    ∃ (t P : Addr) (ts' as M' : List Addr), ts = t :: ts' ∧ H t = some (.tup [.str nm, .ref P]) ∧ H P = some (.lst (as.reverse.map V.ref)) ∧ as.length = dss.length ∧ P ≠ p ∧ Nst K exc B i H0 Z σ (upd (upd H p (.lst [])) P (.lst (as.reverse.map V.ref ++ [.ref p]))) ρ ((nm, [] :: dss) :: r) O S ts M' := by
  obtain ⟨hh, nO, raw, st, stk, nd, new⟩ := id N
  obtain ⟨np, n0, nb⟩ := N.fresh n
  cases stk with
  | @cons t P as ts' M' _ _ _ h1 h2 h3 h4 =>
    have mP : P ∈ S :: P :: (as ++ M') := by simp
    have nPp : P ≠ p := fun z => np (z ▸ mP)
    have nSP : S ≠ P := fun z => (List.nodup_cons.mp nd).1 (by rw [z]; simp)
    have nd1 := (List.nodup_cons.mp nd).2
    have nP1 := (List.nodup_cons.mp nd1).1
    have nt : ∀ b xs, H b = some (.tup xs) → upd (upd H p (.lst [])) P (.lst (as.reverse.map V.ref ++ [.ref p])) b = some (.tup xs) := fun b xs z => by
      have e1 : b ≠ P := fun e => by rw [e, h2] at z; cases z
      have e2 : b ≠ p := fun e => by rw [e, n] at z; cases z
      rw [upd_ne e1, upd_ne e2]; exact z
    have kp : ∀ b ∈ as ++ M', ∀ u, H b = some u → upd (upd H p (.lst [])) P (.lst (as.reverse.map V.ref ++ [.ref p])) b = some u := fun b hb u z => by
      have e1 : b ≠ P := fun e => nP1 (e ▸ hb)
      have e2 : b ≠ p := fun e => by rw [e, n] at z; cases z
      rw [upd_ne e1, upd_ne e2]; exact z
    obtain ⟨up, hh'⟩ := N.to (L' := S :: P :: (p :: as ++ M')) (H' := upd (upd H p (.lst [])) P (.lst (as.reverse.map V.ref ++ [.ref p]))) (fun a ha => by
        rcases List.mem_cons.mp ha with rfl | ha
        · exact .inl (by simp)
        · rcases List.mem_cons.mp ha with rfl | ha
          · exact .inl mP
          · rcases List.mem_cons.mp ha with rfl | ha
            · exact .inr n
            · exact .inl (List.mem_cons_of_mem _ (List.mem_cons_of_mem _ ha)))
      (fun a o na z => by
        have e1 : a ≠ P := fun e => na (e ▸ mP)
        have e2 : a ≠ p := fun e => by rw [e, n] at z; cases z
        rw [upd_ne e1, upd_ne e2]; exact z)
      (fun a z => live_upd (live_upd z))
      (fun a ha => by
        by_cases e : a = p
        · rw [e]; exact live_upd (by rw [upd_same]; exact fun z => nomatch z)
        · refine live_upd (live_upd ?_)
          have ha' : a ∈ S :: P :: (as ++ M') := by
            rcases List.mem_cons.mp ha with rfl | ha
            · simp
            · rcases List.mem_cons.mp ha with rfl | ha
              · exact mP
              · rcases List.mem_cons.mp ha with rfl | ha
                · exact absurd rfl e
                · exact List.mem_cons_of_mem _ (List.mem_cons_of_mem _ ha)
          obtain ⟨xs, q⟩ := N.live ha'
          rw [q]; exact fun z => nomatch z)
    refine ⟨t, P, ts', as, P :: (p :: as ++ M'), rfl, h1, h2, h3.len, nPp, ⟨hh', nO, raw, ?_, ?_, ?_, fun a ha => ?_⟩⟩
    · have e2 : S ≠ p := fun e => np (by rw [← e]; simp)
      rw [upd_ne nSP, upd_ne e2]; exact st
    · refine .cons (nt _ _ h1) ?_ (.cons ?_ .nil (h3.go (fun b hb => kp b (List.mem_append_left _ hb)) up)) (h4.go (fun b hb => kp b (List.mem_append_right _ hb)) nt up)
      · rw [upd_same, List.reverse_cons, List.map_append]; rfl
      · rw [upd_ne nPp.symm, upd_same]
    · refine List.nodup_cons.mpr ⟨fun z => ?_, List.nodup_cons.mpr ⟨fun z => ?_, List.nodup_cons.mpr ⟨fun z => ?_, (List.nodup_cons.mp nd1).2⟩⟩⟩
      · rcases List.mem_cons.mp z with e | z
        · exact nSP e
        · rcases List.mem_cons.mp z with e | z
          · exact np (by rw [← e]; simp)
          · exact (List.nodup_cons.mp nd).1 (List.mem_cons_of_mem _ z)
      · rcases List.mem_cons.mp z with e | z
        · exact nPp e
        · exact nP1 z
      · exact np (List.mem_cons_of_mem _ (List.mem_cons_of_mem _ z))
    · rcases List.mem_cons.mp ha with rfl | ha
      · exact new _ (by simp)
      · rcases List.mem_cons.mp ha with rfl | ha
        · exact new _ mP
        · rcases List.mem_cons.mp ha with rfl | ha
          · exact ⟨n0, nb⟩
          · exact new _ (List.mem_cons_of_mem _ (List.mem_cons_of_mem _ ha))
/-- a new frame -/
theorem Nst.opn {x : Str} {p q t : Addr} (N : Nst K exc B i H0 Z σ H ρ fs O S ts M) (n1 : H p = none) (n2 : upd H p (.lst []) q = none) (n3 : upd (upd H p (.lst [])) q (.lst [.ref p]) t = none) :
    Nst K exc B i H0 Z σ (upd (upd (upd (upd H p (.lst [])) q (.lst [.ref p])) t (.tup [.str x, .ref q])) S (.lst (ts.reverse.map V.ref ++ [.ref t]))) ρ ((x, [[]]) :: fs) O S (t :: ts) (q :: ([p] ++ M)) := by
  obtain ⟨hh, nO, raw, st, stk, nd, new⟩ := id N
  have qp : q ≠ p := fun z => by rw [z, upd_same] at n2; cases n2
  rw [upd_ne qp] at n2
  have tq : t ≠ q := fun z => by rw [z, upd_same] at n3; cases n3
  rw [upd_ne tq] at n3
  have tp : t ≠ p := fun z => by rw [z, upd_same] at n3; cases n3
  rw [upd_ne tp] at n3
  obtain ⟨np, np0, npb⟩ := N.fresh n1
  obtain ⟨nq, nq0, nqb⟩ := N.fresh n2
  obtain ⟨nt, nt0, ntb⟩ := N.fresh n3
  have mS : S ∈ S :: M := by simp
  have kp : ∀ b u, b ≠ S → H b = some u → upd (upd (upd (upd H p (.lst [])) q (.lst [.ref p])) t (.tup [.str x, .ref q])) S (.lst (ts.reverse.map V.ref ++ [.ref t])) b = some u := fun b u e z => by
    have e1 : b ≠ t := fun e => by rw [e, n3] at z; cases z
    have e2 : b ≠ q := fun e => by rw [e, n2] at z; cases z
    have e3 : b ≠ p := fun e => by rw [e, n1] at z; cases z
    rw [upd_ne e, upd_ne e1, upd_ne e2, upd_ne e3]; exact z
  have Sp : p ≠ S := fun e => np (e ▸ mS)
  have Sq : q ≠ S := fun e => nq (e ▸ mS)
  have St : t ≠ S := fun e => nt (e ▸ mS)
  have kt : ∀ b xs, H b = some (.tup xs) → upd (upd (upd (upd H p (.lst [])) q (.lst [.ref p])) t (.tup [.str x, .ref q])) S (.lst (ts.reverse.map V.ref ++ [.ref t])) b = some (.tup xs) := fun b xs z => kp b _ (fun e => by rw [e, st] at z; cases z) z
  have nS := (List.nodup_cons.mp nd).1
  obtain ⟨up, hh'⟩ := N.to (L' := S :: q :: ([p] ++ M)) (H' := upd (upd (upd (upd H p (.lst [])) q (.lst [.ref p])) t (.tup [.str x, .ref q])) S (.lst (ts.reverse.map V.ref ++ [.ref t]))) (fun a ha => by
      rcases List.mem_cons.mp ha with rfl | ha
      · exact .inl mS
      · rcases List.mem_cons.mp ha with rfl | ha
        · exact .inr n2
        · rcases List.mem_cons.mp ha with rfl | ha
          · exact .inr n1
          · exact .inl (List.mem_cons_of_mem _ ha))
    (fun a o na z => kp a o (fun e => na (e ▸ mS)) z)
    (fun a z => live_upd (live_upd (live_upd (live_upd z))))
    (fun a ha => by
      rcases List.mem_cons.mp ha with rfl | ha
      · rw [upd_same]; exact fun z => nomatch z
      · rcases List.mem_cons.mp ha with rfl | ha
        · exact live_upd (live_upd (by rw [upd_same]; exact fun z => nomatch z))
        · rcases List.mem_cons.mp ha with rfl | ha
          · exact live_upd (live_upd (live_upd (by rw [upd_same]; exact fun z => nomatch z)))
          · obtain ⟨xs, q⟩ := N.live (List.mem_cons_of_mem _ ha)
            exact live_upd (live_upd (live_upd (live_upd (by rw [q]; exact fun z => nomatch z)))))
  refine ⟨hh', nO, raw, ?_, ?_, ?_, fun a ha => ?_⟩
  · rw [upd_same, List.reverse_cons, List.map_append]; rfl
  · refine .cons ?_ ?_ (.cons ?_ .nil .nil) (stk.go (fun b hb u z => kp b u (fun e => nS (e ▸ hb)) z) kt up)
    · rw [upd_ne St, upd_same]
    · rw [upd_ne Sq, upd_ne tq.symm, upd_same]; rfl
    · rw [upd_ne Sp, upd_ne tp.symm, upd_ne qp.symm, upd_same]
  · refine List.nodup_cons.mpr ⟨fun z => ?_, List.nodup_cons.mpr ⟨fun z => ?_, List.nodup_cons.mpr ⟨fun z => np (List.mem_cons_of_mem _ z), (List.nodup_cons.mp nd).2⟩⟩⟩
    · rcases List.mem_cons.mp z with e | z
      · exact Sq e.symm
      · rcases List.mem_cons.mp z with e | z
        · exact Sp e.symm
        · exact nS z
    · rcases List.mem_cons.mp z with e | z
      · exact qp e
      · exact nq (List.mem_cons_of_mem _ z)
  · rcases List.mem_cons.mp ha with rfl | ha
    · exact new _ mS
    · rcases List.mem_cons.mp ha with rfl | ha
      · exact ⟨nq0, nqb⟩
      · rcases List.mem_cons.mp ha with rfl | ha
        · exact ⟨np0, npb⟩
        · exact new _ (List.mem_cons_of_mem _ ha)
/-- the top is taken away: what it held is data now -/
theorem Nst.pop {nm : Str} {dss : List (List D)} {r : List Fr} (N : Nst K exc B i H0 Z σ H ρ ((nm, dss) :: r) O S ts M) :
    ∃ (t P : Addr) (ts' as M' : List Addr), ts = t :: ts' ∧ H t = some (.tup [.str nm, .ref P]) ∧ Nst K exc B i H0 Z σ (upd H S (.lst (ts'.reverse.map V.ref))) ρ r O S ts' M' ∧
      Fit K (hp (FL exc B (S :: M')) O true (upd H S (.lst (ts'.reverse.map V.ref)))) (.ref P) (.list (dss.reverse.map PyData.list)) := by
  obtain ⟨hh, nO, raw, st, stk, nd, new⟩ := id N
  cases stk with
  | @cons t P as ts' M' _ _ _ h1 h2 h3 h4 =>
    have mS : S ∈ S :: P :: (as ++ M') := by simp
    have nS := (List.nodup_cons.mp nd).1
    have nd1 := (List.nodup_cons.mp nd).2
    have ndA := List.nodup_append.mp (List.nodup_cons.mp nd1).2
    have kp : ∀ b u, b ≠ S → H b = some u → upd H S (.lst (ts'.reverse.map V.ref)) b = some u := fun b u e z => by rw [upd_ne e]; exact z
    have kt : ∀ b xs, H b = some (.tup xs) → upd H S (.lst (ts'.reverse.map V.ref)) b = some (.tup xs) := fun b xs z => kp b _ (fun e => by rw [e, st] at z; cases z) z
    have sub : ∀ a ∈ S :: M', a ∈ S :: P :: (as ++ M') := fun a ha => by
      rcases List.mem_cons.mp ha with rfl | ha
      · exact mS
      · exact List.mem_cons_of_mem _ (List.mem_cons_of_mem _ (List.mem_append_right _ ha))
    obtain ⟨up, hh'⟩ := N.to (L' := S :: M') (H' := upd H S (.lst (ts'.reverse.map V.ref))) (fun a ha => .inl (sub a ha)) (fun a o na z => kp a o (fun e => na (e ▸ mS)) z) (fun a z => live_upd z)
      (fun a ha => by
        obtain ⟨xs, q⟩ := N.live (sub a ha)
        exact live_upd (by rw [q]; exact fun z => nomatch z))
    have out : ∀ a, a ∈ P :: as → ∀ o, H a = some o → hp (FL exc B (S :: M')) O true (upd H S (.lst (ts'.reverse.map V.ref))) a = some o := fun a ha o z => by
      have ma : a ∈ S :: P :: (as ++ M') := by
        rcases List.mem_cons.mp ha with rfl | ha
        · simp
        · exact List.mem_cons_of_mem _ (List.mem_cons_of_mem _ (List.mem_append_left _ ha))
      have eS : a ≠ S := fun e => by
        rcases List.mem_cons.mp ha with e' | ha
        · exact nS (by rw [← e, e']; simp)
        · exact nS (by rw [← e]; exact List.mem_cons_of_mem _ (List.mem_append_left _ ha))
      refine (hp_FL nO).mpr ⟨(new a ma).2, fun q => ?_, kp a o eS z⟩
      rcases List.mem_cons.mp q with e | q
      · exact eS e
      · rcases List.mem_cons.mp ha with e' | ha
        · exact (List.nodup_cons.mp nd1).1 (by rw [← e']; exact List.mem_append_right _ q)
        · exact ndA.2.2 a ha a q rfl
    refine ⟨t, P, ts', as, M', rfl, h1, ⟨hh', nO, raw, upd_same, h4.go (fun b hb u z => kp b u (fun e => nS (by rw [← e]; exact List.mem_cons_of_mem _ (List.mem_append_right _ hb))) z) kt up, ?_, fun a ha => new a (sub a ha)⟩, ?_⟩
    · exact List.nodup_cons.mpr ⟨fun z => nS (List.mem_cons_of_mem _ (List.mem_append_right _ z)), ndA.2.1⟩
    · refine .lst (Rd.of (out P List.mem_cons_self _ h2)) ?_
      have q := FitAll.rev (Pts.fit (H := H) (h3.go (fun _ _ _ z => z) up) fun a ha o z => out a (List.mem_cons_of_mem _ ha) o z)
      rw [← List.map_reverse, ← List.map_reverse] at q
      exact q
end
end DL
set_option Elab.async false
set_option linter.all false
set_option maxRecDepth 100000
namespace DL
open PySem L2 PyProof.Rows
/-! ### tree_of behind its first test -/
def wLINE : Str := Str.ofString "line"
def wOPEN : Str := Str.ofString "open"
def wNEXT : Str := Str.ofString "next"
def stStep (w x : Str) (fs : List Fr) : Option (List Fr) :=
  if w = wLINE then match fs with
    | (n, ds :: dss) :: r => if ds.length < 1000000 then some ((n, (ds ++ [.str x]) :: dss) :: r) else none
    | _ => none
  else if w = wOPEN then if fs.length < 1000000 then some ((x, [[]]) :: fs) else none
  else if w = wNEXT then match fs with
    | (n, dss) :: r => if dss.length < 1000000 then some ((n, [] :: dss) :: r) else none
    | _ => none
  else match fs with
    | (n, dss) :: (m, ds :: ess) :: r => if ds.length < 1000000 ∧ dss.length ≤ 1000000 then some ((m, (ds ++ [.tuple [.str n, .tuple (dss.reverse.map PyData.tuple)]]) :: ess) :: r) else none
    | _ => none
def stRun : List D → List Fr → Option (List Fr)
  | [], fs => some fs
  | .tuple [.str w, .str x] :: r, fs => if SeqAt.shaped (.str w) = true then (match stStep w x fs with
    | some fs' => stRun r fs'
    | none => none) else none
  | _ :: _, _ => none
def stEnd (fs : List Fr) : Option D := match fs.getLast? with
  | some (_, dss) => match dss.getLast? with
    | some ds => some (.tuple ds)
    | none => none
  | none => none
def notOwn : SV → Bool
  | .own _ => false
  | _ => true
def sTree : RS := fun (ρ : En) => if ρ.all notOwn = true ∧ ρ.length = 7 then match (ρ[0]? : Option SV) with
  | some (SV.val (.tuple rows)) => match stRun rows [(Str.ofString "", [[]])] with
    | some fs => (stEnd fs).map .rt
    | none => none
  | _ => none
  else none
theorem nO_of {K : PySem.W.Frag} {F : Fx} {H0 Z : Hp} {O : List (Option Addr)} {σ : L2.St} {H : Hp} {ρ : En} (h : Holds K F H0 Z O σ H ρ) (n : ρ.all notOwn = true) : ∀ a, some a ∉ O := fun a q => by
  obtain ⟨i, e⟩ := List.mem_iff_getElem?.mp q
  obtain ⟨ds, z⟩ := h.oin i a e
  have := List.all_eq_true.mp n _ (List.mem_of_getElem? z)
  cases this
section
variable {K : PySem.W.Frag} {exc : Cn → Value} {B : Addr → Prop} {i : Nat} {H0 Z H : Hp} {σ : L2.St} {ρ : En} {fs : List Fr} {O : List (Option Addr)} {S : Addr} {ts M : List Addr}
theorem Nst.go {H' : Hp} (N : Nst K exc B i H0 Z σ H ρ fs O S ts M) (s : Same H H') : Nst K exc B i H0 Z σ H' ρ fs O S ts M :=
  ⟨N.hh.go (Ext.of s), N.nO, N.raw, s _ _ N.st, N.stk.go (fun _ _ _ z => s _ _ z) (fun _ _ z => s _ _ z) (hp_ext (Ext.of s)), N.nd, N.new⟩
theorem Nst.setv {v : V} {d : D} {j : Nat} (N : Nst K exc B i H0 Z σ H ρ fs O S ts M) (hv : Fit K (hp (FL exc B (S :: M)) O true H) v d) (ne : j ≠ i) : Nst K exc B i H0 Z (σ.set j (some v)) H (ρ.set j (.val d)) fs (O.set j none) S ts M :=
  ⟨N.hh.set j hv, fun a q => N.nO a (mem_set_none q), by rw [List.getElem?_set_ne ne]; exact N.raw, N.st, N.stk.go (fun _ _ _ z => z) (fun _ _ z => z) (hp_less fun a => mem_set_none), N.nd, N.new⟩
theorem ixN_last {n : Nat} : ixN (n + 1) (-1) = some n := by
  unfold ixN
  rw [if_neg (by decide)]
  split
  · congr 1; omega
  · omega
theorem atI_last {α : Type} (xs : List α) (y : α) : atI (xs ++ [y]) (-1) = some y := by
  unfold atI
  rw [List.length_append, List.length_singleton, ixN_last]
  simp
theorem atI_zero {α : Type} (xs : List α) (y : α) : atI (y :: xs) 0 = some y := by
  unfold atI ixN
  simp
theorem atI_one {α : Type} (xs : List α) (x y : α) : atI (x :: y :: xs) 1 = some y := by
  unfold atI ixN
  have e : (1 : Int) < ((x :: y :: xs).length : Int) := by simp only [List.length_cons]; omega
  rw [if_pos (by decide), if_pos e]
  rfl
def tm1 : TE := tUn (rU fun i => .int (-i)) (tC (.int 1))
def tIx1 (K : PySem.W.Frag) : TE := tOp (rIx K) (tOp (rIx K) (tVar 1) tm1) (tC (.int 1))
def tIx2 (K : PySem.W.Frag) : TE := tOp (rIx K) (tIx1 K) tm1
theorem Nst.ix1 {t P : Addr} {ts' : List Addr} {nm : Str} {Q : VK} (N : Nst K exc B 1 H0 Z σ H ρ fs O S (t :: ts') M) (ht : H t = some (.tup [.str nm, .ref P])) (q : Q (.ref P) H) : tIx1 K σ H Q := by
  refine ⟨.ref S, N.hh.raw 1 _ N.raw, 1, rfl, .inl ⟨S, _, -1, .ref t, rfl, rfl, SqL.of N.st, ?_, .inr (.inl ⟨t, _, 1, .ref P, rfl, rfl, SqT.of ht, atI_one _ _ _, q⟩)⟩⟩
  rw [List.reverse_cons, List.map_append]
  exact atI_last _ _
theorem Nst.ix2 {t P a : Addr} {ts' as : List Addr} {nm : Str} {Q : VK} (N : Nst K exc B 1 H0 Z σ H ρ fs O S (t :: ts') M) (ht : H t = some (.tup [.str nm, .ref P])) (hP : H P = some (.lst ((a :: as).reverse.map V.ref))) (q : Q (.ref a) H) : tIx2 K σ H Q := by
  refine N.ix1 ht ⟨1, rfl, .inl ⟨P, _, -1, .ref a, rfl, rfl, SqL.of hP, ?_, q⟩⟩
  rw [List.reverse_cons, List.map_append]
  exact atI_last _ _
def rClose : RE := rTup (rCons (rVar 4) (rCons (rCl tupleD (rCons (rLc (rSeq (rVar 5)) (rgName 6) rYes (rCl tupleD (rCons (rVar 6) rNil)) [6]) rNil)) rNil))
theorem list7 {ρ : En} (h : ρ.length = 7) : ∃ a b c d e f g, ρ = [a, b, c, d, e, f, g] := by
  match ρ, h with
  | [a, b, c, d, e, f, g], _ => exact ⟨a, b, c, d, e, f, g, rfl⟩
theorem rClose_eq {ρ : En} {n : Str} {dss : List (List D)} (hl : ρ.length = 7) (ho : ρ.all notOwn = true) (h4 : ρ[4]? = some (.val (.str n))) (h5 : ρ[5]? = some (.val (.list (dss.map PyData.list)))) (hd : dss.length ≤ 1000000) :
    rClose ρ = some (.ok (.tuple [.str n, .tuple (dss.map PyData.tuple)])) := by
  obtain ⟨a, b, c, d, e, f, g, rfl⟩ := list7 hl
  simp only [List.getElem?_cons_succ, List.getElem?_cons_zero, Option.some.injEq] at h4 h5
  subst h4 h5
  have hg : noOwn [a, b, c, d, .val (.str n), .val (.list (dss.map PyData.list)), g] 6 = true := by
    have := List.all_eq_true.mp ho g (by simp)
    cases g <;> first | rfl | cases this
  have e1 : lcL (rgName 6) rYes (rCl tupleD (rCons (rVar 6) rNil)) (wipeR [a, b, c, d, .val (.str n), .val (.list (dss.map PyData.list)), g] [6]) (dss.map PyData.list) = some (dss.map PyData.tuple) := by
    have := lc_map (rg := rgName 6) (re := rCl tupleD (rCons (rVar 6) rNil)) (ρ := wipeR [a, b, c, d, .val (.str n), .val (.list (dss.map PyData.list)), g] [6]) (f := fun d => match d with | .list x => .tuple x | d => d) (ds := dss.map PyData.list) (fun d hd => by
      obtain ⟨x, _, rfl⟩ := List.mem_map.mp hd
      refine ⟨_, rfl, ?_⟩
      simp)
    rw [this, List.map_map]
    rfl
  have e2 : ([6] : List Nat).all (noOwn [a, b, c, d, .val (.str n), .val (.list (dss.map PyData.list)), g]) = true := by simp only [List.all_cons, List.all_nil, hg, Bool.and_self]
  have e3 : (dss.map PyData.list).length ≤ 1000000 := by rw [List.length_map]; exact hd
  have e4 : wipeR [a, b, c, d, .val (.str n), .val (.list (dss.map PyData.list)), g] [6] = [a, b, c, d, .val (.str n), .val (.list (dss.map PyData.list)), .no] := rfl
  rw [e4] at e1
  unfold rClose
  simp [rLc_ap, e1, hg, hd]
def LI (K : PySem.W.Frag) (exc : Cn → Value) (B : Addr → Prop) (H0 Z : Hp) (fs : List Fr) (σ : L2.St) (H : Hp) : Prop := ∃ ρ O S ts M, Nst K exc B 1 H0 Z σ H ρ fs O S ts M ∧ ρ.length = 7 ∧ ρ.all notOwn = true
theorem all_set {ρ : En} {j : Nat} {x : SV} (h : ρ.all notOwn = true) (hx : notOwn x = true) : (ρ.set j x).all notOwn = true := by
  rw [List.all_eq_true] at h ⊢
  intro y hy
  rcases List.mem_or_eq_of_mem_set hy with z | z
  · exact h y z
  · rw [z]; exact hx
def tsA (K : PySem.W.Frag) : TS := tDrop (tBM K "list" rAppend (tIx2 K) (tCons (tVar 3) tNil))
def tsB (K : PySem.W.Frag) : TS := tDrop (tBM K "list" rAppend (tVar 1) (tCons (tTup (tCons (tVar 3) (tCons (tLst (tCons (tLst tNil) tNil)) tNil))) tNil))
def tsC (K : PySem.W.Frag) : TS := tDrop (tBM K "list" rAppend (tIx1 K) (tCons (tLst tNil) tNil))
def tsD (K : PySem.W.Frag) (te : TE) : TS := tSeq (tAsg (tBM0 K "list" rPop (tVar 1)) (gTup K 2 (gCons (gName 4) (gCons (gName 5) gNil)))) (tDrop (tBM K "list" rAppend (tIx2 K) (tCons te tNil)))
section
variable {D : Ends} {fs' : List Fr} {w x : Str}
theorem doA (N : Nst K exc B 1 H0 Z σ H ρ fs O S ts M) (hl : ρ.length = 7) (ho : ρ.all notOwn = true) (h3 : ρ[3]? = some (.val (.str x))) (hs : stStep wLINE x fs = some fs') (k : ∀ σ' H', LI K exc B H0 Z fs' σ' H' → D.nx σ' H') : tsA K D σ H := by
  unfold stStep at hs
  rw [if_pos rfl] at hs
  split at hs
  · split at hs
    · rename_i nm ds dss r c
      cases hs
      obtain ⟨v, hv, fv⟩ := N.hh.val 3 _ h3
      obtain ⟨t, P, a, ts', as, vs, rfl, e1, e2, e3, e4, N'⟩ := N.line fv
      exact N.ix2 e1 e2 ⟨.inl ⟨rfl, _, SqL.of e3⟩, v, hv, a, vs, v, rfl, rfl, e3, by rw [e4]; exact szM c, k _ _ ⟨ρ, O, S, _, M, N', hl, ho⟩⟩
    · cases hs
  · cases hs
theorem doB (N : Nst K exc B 1 H0 Z σ H ρ fs O S ts M) (hl : ρ.length = 7) (ho : ρ.all notOwn = true) (h3 : ρ[3]? = some (.val (.str x))) (hs : stStep wOPEN x fs = some fs') (k : ∀ σ' H', LI K exc B H0 Z fs' σ' H' → D.nx σ' H') : tsB K D σ H := by
  unfold stStep at hs
  rw [if_neg (by decide +kernel), if_pos rfl] at hs
  split at hs
  · rename_i c
    cases hs
    obtain ⟨v, hv, fv⟩ := N.hh.val 3 _ h3
    cases fv
    refine ⟨.ref S, N.hh.raw 1 _ N.raw, .inl ⟨rfl, _, SqL.of N.st⟩, .str x, hv, by decide, fun p n1 => ⟨sz1000 (by simp), fun q n2 => ⟨sz1000 (by simp), fun t n3 => ?_⟩⟩⟩
    have N' := N.opn (x := x) n1 n2 n3
    have qp : q ≠ p := fun z => by rw [z, upd_same] at n2; cases n2
    rw [upd_ne qp] at n2
    have tq : t ≠ q := fun z => by rw [z, upd_same] at n3; cases n3
    rw [upd_ne tq] at n3
    have tp : t ≠ p := fun z => by rw [z, upd_same] at n3; cases n3
    rw [upd_ne tp] at n3
    have m : S ∈ S :: M := List.mem_cons_self
    have n1' : S ≠ p := fun e => (N.fresh n1).1 (e ▸ m)
    have n2' : S ≠ q := fun e => (N.fresh n2).1 (e ▸ m)
    have n3' : S ≠ t := fun e => (N.fresh n3).1 (e ▸ m)
    refine ⟨S, _, .ref t, rfl, rfl, by rw [upd_ne n3', upd_ne n2', upd_ne n1']; exact N.st, ?_, k _ _ ⟨ρ, O, S, _, _, N', hl, ho⟩⟩
    rw [List.length_map, List.length_reverse, N.stk.len]
    exact szM c
  · cases hs
theorem doC (N : Nst K exc B 1 H0 Z σ H ρ fs O S ts M) (hl : ρ.length = 7) (ho : ρ.all notOwn = true) (hs : stStep wNEXT x fs = some fs') (k : ∀ σ' H', LI K exc B H0 Z fs' σ' H' → D.nx σ' H') : tsC K D σ H := by
  unfold stStep at hs
  rw [if_neg (by decide +kernel), if_neg (by decide +kernel), if_pos rfl] at hs
  split at hs
  · split at hs
    · rename_i nm dss r c
      cases hs
      obtain ⟨hh, nO, raw, st, stk, nd, new⟩ := id N
      cases stk with
      | @cons t P as ts' M' _ _ _ h1 h2 h3 h4 =>
        refine N.ix1 h1 ⟨.inl ⟨rfl, _, SqL.of h2⟩, by decide, fun p n => ?_⟩
        obtain ⟨t2, P2, ts2, as2, M2, q0, q1, q2, q3, q4, N'⟩ := N.next n
        cases q0
        rw [h1] at q1
        cases q1
        rw [q2] at h2
        have e0 := List.map_inj_right (f := V.ref) (fun _ _ z => by cases z; rfl) |>.mp (by simpa using h2 : as2.reverse.map V.ref = as.reverse.map V.ref)
        refine ⟨P, as2.reverse.map V.ref, .ref p, rfl, rfl, by rw [upd_ne q4]; exact q2, ?_, k _ _ ⟨ρ, O, S, _, _, N', hl, ho⟩⟩
        rw [List.length_map, List.length_reverse, q3]
        exact szM c
    · cases hs
  · cases hs
theorem doD {E : XK} {te : TE} (hte : ∀ L, SE K (FL exc B L) E true te rClose) (N : Nst K exc B 1 H0 Z σ H ρ fs O S ts M) (hl : ρ.length = 7) (ho : ρ.all notOwn = true) (n1 : w ≠ wLINE) (n2 : w ≠ wOPEN) (n3 : w ≠ wNEXT) (hs : stStep w x fs = some fs') (k : ∀ σ' H', LI K exc B H0 Z fs' σ' H' → D.nx σ' H') : tsD K te D σ H := by
  unfold stStep at hs
  rw [if_neg n1, if_neg n2, if_neg n3] at hs
  split at hs
  · split at hs
    · rename_i nm dss m ds ess r c
      cases hs
      obtain ⟨t, P, ts', as, M', rfl, e1, N', fP⟩ := N.pop
      have nt : S ≠ t := fun e => by rw [← e, N.st] at e1; cases e1
      refine ⟨.ref S, N.hh.raw 1 _ N.raw, .inl ⟨rfl, _, SqL.of N.st⟩, S, _, .ref t, rfl, rfl, N.st, ?_, ?_⟩
      · rw [List.reverse_cons, List.map_append]
        simp
      · have ed : ((t :: ts').reverse.map V.ref).dropLast = ts'.reverse.map V.ref := by
          rw [List.reverse_cons, List.map_append]
          simp
        rw [ed]
        refine ⟨t, _, rfl, SqT.of (by rw [upd_ne nt.symm]; exact e1), rfl, .str nm, _, rfl, .ref P, _, rfl, rfl, ?_⟩
        have N1 := N'.setv (j := 4) (.str nm) (by decide)
        have N2 := N1.setv (j := 5) (dp_mono (hp_less fun a => mem_set_none) fP) (by decide)
        have hl2 : ((ρ.set 4 (.val (.str nm))).set 5 (.val (.list (dss.reverse.map PyData.list)))).length = 7 := by rw [List.length_set, List.length_set]; exact hl
        have ho2 : ((ρ.set 4 (.val (.str nm))).set 5 (.val (.list (dss.reverse.map PyData.list)))).all notOwn = true := all_set (all_set ho rfl) rfl
        have hv := rClose_eq (n := nm) (dss := dss.reverse) hl2 ho2 (by rw [List.getElem?_set_ne (by decide), List.getElem?_set_self (by omega)]) (by rw [List.getElem?_set_self (by rw [List.length_set]; omega)]) (by rw [List.length_reverse]; exact c.2)
        obtain ⟨hh, nO, raw, st, stk, nd, new⟩ := id N2
        cases stk with
        | @cons t2 P2 as2 ts2 M2 _ _ _ h1 h2 h3 h4 =>
          cases h3 with
          | @cons a as vs _ _ q1 q2 q3 =>
            refine N2.ix2 h1 h2 ⟨.inl ⟨rfl, _, SqL.of q1⟩, (hte _).go N2.hh hv Err.ok fun d v H3 ed x3 d3 => ?_⟩
            cases ed
            have N3 := N2.go x3.same
            obtain ⟨t3, P3, a3, ts3, as3, vs3, w0, w1, w2, w3, w4, N4⟩ := N3.line d3
            cases w0
            rw [x3.same _ _ h1] at w1
            cases w1
            rw [x3.same _ _ h2] at w2
            have e5 : (a :: as).reverse.map V.ref = (a3 :: as3).reverse.map V.ref := by simpa using w2
            have e6 : a = a3 := by
              rw [List.reverse_cons, List.map_append, List.reverse_cons, List.map_append] at e5
              have := (List.append_inj' e5 rfl).2
              simpa using this
            subst e6
            exact ⟨a, vs3, v, rfl, rfl, w3, by rw [w4]; exact szM c.1, k _ _ ⟨_, _, S, _, _, N4, hl2, ho2⟩⟩
    · cases hs
  · cases hs
end
end
end DL
set_option Elab.async false
set_option linter.all false
set_option maxRecDepth 100000
namespace DL
open PySem L2 PyProof.Rows
theorem Holds.setRaw {K : PySem.W.Frag} {F : Fx} {H0 Z : Hp} {O : List (Option Addr)} {σ : L2.St} {H : Hp} {ρ : En} (h : Holds K F H0 Z O σ H ρ) (nO : ∀ a, some a ∉ O) {v : V} (i : Nat) : Holds K F H0 Z O (σ.set i (some v)) H (ρ.set i (.raw v)) where
  len := by simp [h.len]
  olen := by simp [h.olen]
  val := fun j e q => by
    rcases get_set q with ⟨rfl, z⟩ | ⟨n, z⟩
    · cases z
    · rw [List.getElem?_set_ne n]; exact h.val j e z
  own := fun j e q => by
    rcases get_set q with ⟨rfl, z⟩ | ⟨n, z⟩
    · cases z
    · rw [List.getElem?_set_ne n]; exact h.own j e z
  raw := fun j e q => by
    rcases get_set q with ⟨rfl, z⟩ | ⟨n, z⟩
    · cases z
      have hl := lt_of_set q
      exact List.getElem?_set_self (by rw [h.len]; exact hl)
    · rw [List.getElem?_set_ne n]; exact h.raw j e z
  dic := fun j e q => by
    rcases get_set q with ⟨rfl, z⟩ | ⟨n, z⟩
    · cases z
    · rw [List.getElem?_set_ne n]; exact h.dic j e z
  inj := h.inj
  new := h.new
  bex := h.bex
  ext := h.ext
  frz := h.frz
  oin := fun j a q => absurd (List.mem_of_getElem? q) (nO a)
  ok := h.ok
def tIni : TS := tAsg (tLst (tCons (tTup (tCons (tC (.str (Str.ofString ""))) (tCons (tLst (tCons (tLst tNil) tNil)) tNil))) tNil)) (gName 1)
def tEnd (K : PySem.W.Frag) : TS := tRet (tCB (fun xs H Q => ∃ p ys, xs = [.ref p] ∧ ((SqL K H p ys ∧ ∀ l, H l = none → Q (.ref l) (upd H l (.tup ys))) ∨ (SqT K H p ys ∧ Q (.ref p) H))) (tCons (tOp (rIx K) (tOp (rIx K) (tOp (rIx K) (tVar 1) (tC (.int 0))) (tC (.int 1))) (tC (.int 0))) tNil))
section
variable {K : PySem.W.Frag} {exc : Cn → Value} {B : Addr → Prop} {E : XK} {H0 Z : Hp} {c1 c2 c3 : TT} {te : TE} {wi : TI}
theorem Stk.last {H G : Hp} {ts M : List Addr} {fs : List Fr} {nm : Str} {dss : List (List D)} (h : Stk K H G ts M fs) (e : fs.getLast? = some (nm, dss)) : ∃ t P as, ts.getLast? = some t ∧ H t = some (.tup [.str nm, .ref P]) ∧ H P = some (.lst (as.reverse.map V.ref)) ∧ Pts K H G as dss ∧ ∀ a ∈ as, a ∈ M := by
  induction h with
  | nil => cases e
  | @cons t P as ts M nm' dss' fs h1 h2 h3 h4 ih =>
    cases fs with
    | nil =>
      cases h4
      simp at e
      obtain ⟨rfl, rfl⟩ := e
      exact ⟨t, P, as, rfl, h1, h2, h3, fun a ha => by simp [ha]⟩
    | cons f r =>
      rw [List.getLast?_cons_cons] at e
      obtain ⟨t', P', as', q1, q2, q3, q4, q5⟩ := ih e
      refine ⟨t', P', as', ?_, q2, q3, q4, fun a ha => by simp [q5 a ha]⟩
      cases ts with
      | nil => cases q1
      | cons => rw [List.getLast?_cons_cons]; exact q1
theorem Pts.last {H G : Hp} {as : List Addr} {dss : List (List D)} {ds : List D} (h : Pts K H G as dss) (e : dss.getLast? = some ds) : ∃ a vs, as.getLast? = some a ∧ a ∈ as ∧ H a = some (.lst vs) ∧ FitAll K G vs ds := by
  induction h with
  | nil => cases e
  | @cons a as vs ds' dss h1 h2 h3 ih =>
    cases dss with
    | nil =>
      cases h3
      simp at e
      subst e
      exact ⟨a, vs, rfl, by simp, h1, h2⟩
    | cons f r =>
      rw [List.getLast?_cons_cons] at e
      obtain ⟨a', vs', q1, q2, q3, q4⟩ := ih e
      refine ⟨a', vs', ?_, List.mem_cons_of_mem _ q2, q3, q4⟩
      cases as with
      | nil => cases q1
      | cons => rw [List.getLast?_cons_cons]; exact q1
theorem atI_first {α : Type} {l : List α} {y : α} (h : l.getLast? = some y) (f : α → V) : atI (l.reverse.map f) 0 = some (f y) := by
  obtain ⟨r, rfl⟩ := List.getLast?_eq_some_iff.mp h
  rw [List.reverse_append, List.map_append]
  exact atI_zero _ _
theorem doEnd {D : Ends} {fs : List Fr} {σ : L2.St} {H : Hp} {d : DL.D} (h : LI K exc B H0 Z fs σ H) (e : stEnd fs = some d) (a : Aft K (pureF exc B) E H0 Z D (.rt d)) : tEnd K D σ H := by
  obtain ⟨ρ, O, S, ts, M, N, hl, ho⟩ := h
  unfold stEnd at e
  split at e
  · rename_i nm dss e1
    split at e
    · rename_i ds e2
      cases e
      obtain ⟨t, P, as, q1, q2, q3, q4, q5⟩ := N.stk.last e1
      obtain ⟨b, vs, w1, w2, w3, w4⟩ := q4.last e2
      have nb : ∀ p, H p = none → ¬ ((pureF exc B).bad p ∨ (false = true ∧ some p ∈ ([] : List (Option Addr)))) := fun p n z => by
        rcases z with z | z
        · exact N.hh.bex p (.inl z) n
        · cases z.1
      have up : Same (hp (FL exc B (S :: M)) O true H) (hp (pureF exc B) [] false H) := fun b u z => by
        obtain ⟨z1, z2, z3⟩ := (hp_FL N.nO).mp z
        refine hp_some.mpr ⟨fun y => ?_, z3⟩
        rcases y with y | y
        · exact z1 y
        · cases y.1
      have bB : ¬ B b := (N.new b (List.mem_cons_of_mem _ (q5 b w2))).2
      refine ⟨.ref S, N.hh.raw 1 _ N.raw, .inl ⟨S, _, 0, .ref t, rfl, rfl, SqL.of N.st, atI_first q1 _, .inr (.inl ⟨t, _, 1, .ref P, rfl, rfl, SqT.of q2, atI_one _ _ _, .inl ⟨P, _, 0, .ref b, rfl, rfl, SqL.of q3, atI_first w1 _, ?_⟩⟩)⟩⟩
      refine cs_tuple.go (F := pureF exc B) (O := []) (fr := false) nb (ds := [.list ds]) (d := .tuple ds) (.cons (.lst (Rd.of (hp_some.mpr ⟨fun y => ?_, w3⟩)) (dps_mono up w4)) .nil) rfl fun v H' x f => a v H' (Ext.trans (Ext.of N.hh.ext.same) x) f
      rcases y with y | y
      · exact bB y
      · cases y.1
    · cases e
  · cases e
theorem stRun_cons {d : DL.D} {r : List DL.D} {fs fsN : List Fr} (h : stRun (d :: r) fs = some fsN) : ∃ w x fs', d = .tuple [.str w, .str x] ∧ SeqAt.shaped (.str w) = true ∧ stStep w x fs = some fs' ∧ stRun r fs' = some fsN := by
  match d, h with
  | .tuple [.str w, .str x], h =>
    simp only [stRun] at h
    split at h
    · rename_i c
      cases hst : stStep w x fs with
      | none => simp only [hst] at h; cases h
      | some fs' => simp only [hst] at h; exact ⟨w, x, fs', rfl, c, hst, h⟩
    · cases h
theorem ss_tree (hc1 : ∀ L, ST K (FL exc B L) E c1 (rTst (rOp eqD (rVar 2) (rC (.str wLINE))))) (hc2 : ∀ L, ST K (FL exc B L) E c2 (rTst (rOp eqD (rVar 2) (rC (.str wOPEN))))) (hc3 : ∀ L, ST K (FL exc B L) E c3 (rTst (rOp eqD (rVar 2) (rC (.str wNEXT)))))
    (hte : ∀ L, SE K (FL exc B L) E true te rClose) (hwi : ∀ L, SI K (FL exc B L) E wi (rSeq (rVar 0))) :
    SS K (pureF exc B) E (tSeq tIni (tSeq (tFor wi (gTup K 2 (gCons (gName 2) (gCons (gName 3) gNil))) (tIfS c1 (tsA K) (tIfS c2 (tsB K) (tIfS c3 (tsC K) (tsD K te))))) (tEnd K))) sTree := ⟨fun {H0 Z O σ H ρ o D} hh e a => by
  unfold sTree at e
  split at e
  · rename_i cond
    obtain ⟨ho, hl⟩ := cond
    split at e
    · rename_i rows h0
      cases hr : stRun rows [(Str.ofString "", [[]])] with
      | none => simp only [hr] at e; cases e
      | some fsN =>
        simp only [hr] at e
        obtain ⟨dd, ed, rfl⟩ := Option.map_eq_some_iff.mp e
        have nO := nO_of hh ho
        refine ⟨by decide, fun p n1 => ⟨sz1000 (by simp), fun q n2 => ⟨sz1000 (by simp), fun t n3 => ⟨sz1000 (by simp), fun S n4 => ?_⟩⟩⟩⟩
        have hbex := hh.bex
        -- the first state
        have qp : q ≠ p := fun z => by rw [z, upd_same] at n2; cases n2
        rw [upd_ne qp] at n2
        have tq : t ≠ q := fun z => by rw [z, upd_same] at n3; cases n3
        rw [upd_ne tq] at n3
        have tp : t ≠ p := fun z => by rw [z, upd_same] at n3; cases n3
        rw [upd_ne tp] at n3
        have St : S ≠ t := fun z => by rw [z, upd_same] at n4; cases n4
        rw [upd_ne St] at n4
        have Sq : S ≠ q := fun z => by rw [z, upd_same] at n4; cases n4
        rw [upd_ne Sq] at n4
        have Sp : S ≠ p := fun z => by rw [z, upd_same] at n4; cases n4
        rw [upd_ne Sp] at n4
        have kp : ∀ b u, H b = some u → upd (upd (upd (upd H p (.lst [])) q (.lst [.ref p])) t (.tup [.str (Str.ofString ""), .ref q])) S (.lst [.ref t]) b = some u := fun b u z => by
          have e0 : b ≠ S := fun e => by rw [e, n4] at z; cases z
          have e1 : b ≠ t := fun e => by rw [e, n3] at z; cases z
          have e2 : b ≠ q := fun e => by rw [e, n2] at z; cases z
          have e3 : b ≠ p := fun e => by rw [e, n1] at z; cases z
          rw [upd_ne e0, upd_ne e1, upd_ne e2, upd_ne e3]; exact z
        have h0n : ∀ b, H b = none → H0 b = none := fun b n => by
          cases z : H0 b with
          | none => rfl
          | some u => rw [hh.ext.keep b u (fun y => y) z] at n; cases n
        have hB : ∀ b, H b = none → ¬ B b := fun b n z => hbex b z n
        have up : Same (hp (pureF exc B) O true H) (hp (FL exc B [S, q, p]) O true (upd (upd (upd (upd H p (.lst [])) q (.lst [.ref p])) t (.tup [.str (Str.ofString ""), .ref q])) S (.lst [.ref t]))) := fun b u z => by
          obtain ⟨z1, z2⟩ := hp_some.mp z
          refine (hp_FL nO).mpr ⟨fun y => z1 (.inl y), fun y => ?_, kp b u z2⟩
          simp at y
          rcases y with y | y | y
          · rw [y, n4] at z2; cases z2
          · rw [y, n2] at z2; cases z2
          · rw [y, n1] at z2; cases z2
        have hh1 : Holds K (FL exc B [S, q, p]) H0 Z O σ (upd (upd (upd (upd H p (.lst [])) q (.lst [.ref p])) t (.tup [.str (Str.ofString ""), .ref q])) S (.lst [.ref t])) ρ := by
          refine hh.sw nO up (ext_FL fun b u z => kp b u (hh.ext.keep b u (fun y => y) z)) fun b hb => ?_
          rcases hb with hb | hb
          · exact live_upd (live_upd (live_upd (live_upd (hbex b hb))))
          · simp at hb
            rcases hb with rfl | rfl | rfl
            · rw [upd_same]; exact fun z => nomatch z
            · exact live_upd (live_upd (by rw [upd_same]; exact fun z => nomatch z))
            · exact live_upd (live_upd (live_upd (by rw [upd_same]; exact fun z => nomatch z)))
        have N0 : Nst K exc B 1 H0 Z (σ.set 1 (some (.ref S))) (upd (upd (upd (upd H p (.lst [])) q (.lst [.ref p])) t (.tup [.str (Str.ofString ""), .ref q])) S (.lst [.ref t])) (ρ.set 1 (.raw (.ref S))) [(Str.ofString "", [[]])] O S [t] [q, p] := by
          refine ⟨hh1.setRaw nO 1, nO, List.getElem?_set_self (by omega), upd_same, ?_, ?_, fun b hb => ?_⟩
          · refine .cons (M := []) (as := [p]) ?_ ?_ (.cons ?_ .nil .nil) .nil
            · rw [upd_ne St.symm, upd_same]
            · rw [upd_ne Sq.symm, upd_ne tq.symm, upd_same]; rfl
            · rw [upd_ne Sp.symm, upd_ne tp.symm, upd_ne qp.symm, upd_same]
          · simp [Sq, Sp, qp]
          · simp at hb
            rcases hb with rfl | rfl | rfl
            · exact ⟨h0n _ n4, hB _ n4⟩
            · exact ⟨h0n _ n2, hB _ n2⟩
            · exact ⟨h0n _ n1, hB _ n1⟩
        have hl0 : (ρ.set 1 (.raw (.ref S))).length = 7 := by rw [List.length_set]; exact hl
        have ho0 : (ρ.set 1 (.raw (.ref S))).all notOwn = true := all_set ho rfl
        have h00 : (ρ.set 1 (.raw (.ref S)))[0]? = some (.val (.tuple rows)) := by rw [List.getElem?_set_ne (by decide)]; exact h0
        have er : rSeq (rVar 0) (ρ.set 1 (.raw (.ref S))) = some (.ok rows) := by
          unfold rSeq rVar
          rw [h00]
          rfl
        refine (hwi _).go N0.hh er Err.ok fun ds J H1 e1 x1 it => ?_
        cases e1
        have N1 := N0.go x1.same
        have N2 : Nst K exc B 1 H0 (hp (FL exc B [S, q, p]) O true H1) _ H1 _ _ O S [t] [q, p] := ⟨N1.hh.zed, N1.nO, N1.raw, N1.st, N1.stk, N1.nd, N1.new⟩
        have zz := N1.hh.frz
        refine ⟨fun i m σ' H' => m = rows.length - i ∧ i ≤ rows.length ∧ ∃ fs, LI K exc B H0 (hp (FL exc B [S, q, p]) O true H1) fs σ' H' ∧ stRun (rows.drop i) fs = some fsN, ⟨rows.length, rfl, Nat.zero_le _, _, ⟨_, _, _, _, _, N2, hl0, ho0⟩, by rw [List.drop_zero]; exact hr⟩, ?_⟩
        rintro i m σ' H' ⟨rfl, hle, fs, hL, hrun⟩
        obtain ⟨ρ', O', S', ts', M', N', hl', ho'⟩ := id hL
        have sz := N'.hh.frz.trans hp_le
        by_cases hlt : i < rows.length
        · rw [List.drop_eq_getElem_cons hlt] at hrun
          refine .inr ⟨it.go i H' sz hlt, fun σ2 H2 => ∃ fs, LI K exc B H0 (hp (FL exc B [S, q, p]) O true H1) fs σ2 H2 ∧ stRun (rows.drop (i + 1)) fs = some fsN, fun σ2 H2 z => ⟨rows.length - (i + 1), by omega, rfl, hlt, z⟩, fun x H2 y => ?_⟩
          obtain ⟨s2, dx⟩ := it.yld i H' x H2 sz y rows[i] (List.getElem?_eq_getElem hlt)
          have d2 := dx (FL exc B (S' :: M')) O' N'.hh.frz fun p n => N'.hh.fresh n
          have N3 := N'.go s2
          obtain ⟨w, z, fs', hd, shp, hst, hrun'⟩ := stRun_cons hrun
          rw [hd] at d2
          obtain ⟨at_, xs, rfl, sq, fx⟩ := dp_tup d2
          obtain ⟨rfl⟩ : xs = [.str w, .str z] := by
            cases fx with
            | cons f1 f2 =>
              cases f2 with
              | cons f3 f4 => cases f4; cases f1; cases f3; rfl
          refine ⟨at_, _, rfl, sqt_mono hp_le sq, rfl, .str w, _, rfl, .str z, _, rfl, rfl, ?_⟩
          have N4 := (N3.setv (j := 2) (.str w) (by decide)).setv (j := 3) (.str z) (by decide)
          have hl4 : ((ρ'.set 2 (.val (.str w))).set 3 (.val (.str z))).length = 7 := by rw [List.length_set, List.length_set]; exact hl'
          have ho4 : ((ρ'.set 2 (.val (.str w))).set 3 (.val (.str z))).all notOwn = true := all_set (all_set ho' rfl) rfl
          have g2 : ((ρ'.set 2 (.val (.str w))).set 3 (.val (.str z)))[2]? = some (.val (.str w)) := by rw [List.getElem?_set_ne (by decide), List.getElem?_set_self (by omega)]
          have g3 : ((ρ'.set 2 (.val (.str w))).set 3 (.val (.str z)))[3]? = some (.val (.str z)) := by rw [List.getElem?_set_self (by rw [List.length_set]; omega)]
          have tst : ∀ y : Str, SeqAt.shaped (.str y) = true → rTst (rOp eqD (rVar 2) (rC (.str y))) ((ρ'.set 2 (.val (.str w))).set 3 (.val (.str z))) = some (.ok (decide (w = y))) := fun y hy => by
            have ev : rVar 2 ((ρ'.set 2 (.val (.str w))).set 3 (.val (.str z))) = some (.ok (.str w)) := by
              unfold rVar
              rw [g2]
            have eq : eqD (.str w) (.str y) = some (.bool (decide (w = y))) := by
              unfold eqD
              rw [if_pos ⟨shp, hy⟩]
              congr 2
            simp [ev, eq]
          have done : ∀ σ2 H2, LI K exc B H0 (hp (FL exc B [S, q, p]) O true H1) fs' σ2 H2 → ∃ fs, LI K exc B H0 (hp (FL exc B [S, q, p]) O true H1) fs σ2 H2 ∧ stRun (rows.drop (i + 1)) fs = some fsN := fun σ2 H2 hq => ⟨fs', hq, hrun'⟩
          refine (hc1 _).go N4.hh (tst wLINE (by decide +kernel)) Err.ok fun b H5 eb x5 => ?_
          cases eb
          have N5 := N4.go x5.same
          by_cases k1 : w = wLINE
          · rw [if_pos (by simpa using k1)]
            subst k1
            exact doA N5 hl4 ho4 g3 hst done
          · rw [if_neg (by simpa using k1)]
            refine (hc2 _).go N5.hh (tst wOPEN (by decide +kernel)) Err.ok fun b H6 eb x6 => ?_
            cases eb
            have N6 := N5.go x6.same
            by_cases k2 : w = wOPEN
            · rw [if_pos (by simpa using k2)]
              subst k2
              exact doB N6 hl4 ho4 g3 hst done
            · rw [if_neg (by simpa using k2)]
              refine (hc3 _).go N6.hh (tst wNEXT (by decide +kernel)) Err.ok fun b H7 eb x7 => ?_
              cases eb
              have N7 := N6.go x7.same
              by_cases k3 : w = wNEXT
              · rw [if_pos (by simpa using k3)]
                subst k3
                exact doC N7 hl4 ho4 hst done
              · rw [if_neg (by simpa using k3)]
                exact doD hte N7 hl4 ho4 k1 k2 k3 hst done
        · have ei : i = rows.length := by omega
          subst ei
          rw [List.drop_length] at hrun
          cases hrun
          exact .inl ⟨it.stop H' sz, doEnd (E := E) hL ed a⟩
    · cases e
  · cases e⟩
end
end DL
namespace DL
open PySem L2
/-! a statement that is never reached -/
def sNone : RS := fun _ => none
theorem ds_none {F : Fx} {E : XK} {X : Cx} {st : Stmt} : DS F E X st (fun _ _ _ => False) sNone := ⟨⟨fun _ _ _ _ _ _ h => h.elim⟩, ⟨fun _ e _ => nomatch e⟩⟩
end DL
set_option Elab.async false
set_option linter.all false
set_option maxRecDepth 100000
/-! sorted of alike data, out of a list or a tuple, any number -/
namespace DL
open PySem L2 PyProof.Rows
section
variable {prog : Program} {w : World} {A : Around} {E : Value → Shared → Prop} {s : Shared}
theorem sorted_seq {it : Addr} {T : String} {o : Obj} {vs out : List Value} {n : Nat} {Q : Value → Shared → Prop} (hT : T = "list" ∨ T = "tuple") (ho : s.heap.get? it = some o) (hc : o.cls = .type T) (hd : o.data = .seq vs.toArray n) (hL : vs.length ≤ sizeLine)
    (S : ∀ h' : Heap, (∀ b o, s.heap.get? b = some o → h'.get? b = some o) → ∃ κ, PySem.W.SortsAt prog w A.in1.in1 { s with heap := h' } κ vs ∧ PySem.W.sortVals κ false vs vs = out)
    (h : ∀ (h' : Heap) (l : Addr), (∀ b o, s.heap.get? b = some o → h'.get? b = some o) → s.heap.get? l = none → (∃ e, h'.get? l = some (seqObj "list" out.toArray e)) → Q (.ref l) { s with heap := h' }) :
    wpAny (model prog w) A (call (.builtin "sorted") [.ref it]) Q E s := by
  refine Calls.call_function_entry kind_sorted plain_sorted entry_sorted (args_sorted1 _) ?_
  unfold Builtin.«sorted»
  refine wpAny_bind (m := checkCount "sorted" 1 1 _) (wpAny_pure ?_)
  refine wpAny_bind (wpAny_collect_seq it hT ho hc hd (fun h1 k1 => ?_) (by simpa using hL))
  have ev : vs.toArray.toList = vs := by simp
  rw [ev]
  refine wpAny_bind (wpAny_newList ?_ hL)
  have hlt : ∀ b u, h1.get? b = some u → b ≠ h1.objs.size := fun b u q => Nat.ne_of_lt (Heap.lt_size q)
  have atL : (h1.push (seqObj "list" vs.toArray 0)).get? h1.objs.size = some (seqObj "list" vs.toArray 0) := Heap.get?_push_size _ rfl
  obtain ⟨κ, hS, eo⟩ := S (PySem.W.sortingHeap (h1.push (seqObj "list" vs.toArray 0)) h1.objs.size vs) fun b u q => PySem.W.sortingHeap_old (hlt b u (k1 b u q)) (Heap.get?_push_of_some _ (k1 b u q))
  refine wpAny_bind (wpAny_holding (wpAny_call_entry slot_list_sort ⟨_, atL, rfl⟩ entry_list_sort ?body (args_list_sort _)))
  case body =>
    refine PySem.W.list_sort_vals (s := { s with heap := h1.push (seqObj "list" vs.toArray 0) }) atL hS hL ⟨_, rfl, wpAny_pure ⟨_, rfl, ?_⟩⟩
    rw [eo]
    refine h _ _ (fun b u q => ?_) ?_ (sortedHeap_at atL)
    · have q1 := k1 b u q
      rw [sortedHeap_old (hlt b u q1) (by rw [size_push']; exact Nat.lt_succ_of_lt (Heap.lt_size q1))]
      exact Heap.get?_push_of_some _ q1
    · cases z : s.heap.get? h1.objs.size with
      | none => rfl
      | some u => exact absurd rfl (hlt _ u (k1 _ u z))
end
/-- x may stand ahead of y -/
def leDt (x y : D) : Bool := !PySem.W.dataLt y x
structure Tri where
  v : Value
  x : V
  d : D
def triOf : List Value → List V → List D → List Tri
  | v :: vs, x :: xs, d :: ds => ⟨v, x, d⟩ :: triOf vs xs ds
  | _, _, _ => []
theorem tri_v : ∀ {vs : List Value} {xs : List V} {ds : List D}, vs.length = ds.length → xs.length = ds.length → (triOf vs xs ds).map Tri.v = vs ∧ (triOf vs xs ds).map Tri.x = xs ∧ (triOf vs xs ds).map Tri.d = ds
  | [], [], [], _, _ => ⟨rfl, rfl, rfl⟩
  | v :: vs, x :: xs, d :: ds, h1, h2 => by
    have q := tri_v (vs := vs) (xs := xs) (ds := ds) (by simpa using h1) (by simpa using h2)
    simp only [triOf, List.map_cons, q.1, q.2.1, q.2.2, and_self]
  | [], [], _ :: _, h, _ => by simp at h
  | [], _ :: _, [], _, h => by simp at h
  | [], _ :: _, _ :: _, h, _ => by simp at h
  | _ :: _, [], [], h, _ => by simp at h
  | _ :: _, [], _ :: _, _, h => by simp at h
  | _ :: _, _ :: _, [], h, _ => by simp at h
theorem tri_all {R : Value → V → D → Prop} : ∀ {vs : List Value} {xs : List V} {ds : List D}, vs.length = ds.length → xs.length = ds.length → (∀ (i : Nat) v x d, vs[i]? = some v → xs[i]? = some x → ds[i]? = some d → R v x d) → ∀ t ∈ triOf vs xs ds, R t.v t.x t.d
  | [], [], [], _, _, _, t, ht => by simp [triOf] at ht
  | v :: vs, x :: xs, d :: ds, h1, h2, h, t, ht => by
    simp only [triOf, List.mem_cons] at ht
    rcases ht with rfl | ht
    · exact h 0 v x d rfl rfl rfl
    · exact tri_all (by simpa using h1) (by simpa using h2) (fun i v x d a b c => h (i + 1) v x d (by simpa using a) (by simpa using b) (by simpa using c)) t ht
  | [], [], _ :: _, h, _, _, _, _ => by simp at h
  | [], _ :: _, [], _, h, _, _, _ => by simp at h
  | [], _ :: _, _ :: _, h, _, _, _, _ => by simp at h
  | _ :: _, [], [], h, _, _, _, _ => by simp at h
  | _ :: _, [], _ :: _, _, h, _, _, _ => by simp at h
  | _ :: _, _ :: _, [], h, _, _, _, _ => by simp at h
theorem each_of {K : PySem.W.Frag} {X : Cx} {pins : List (Addr × Obj)} {σ : L2.St} {H : Hp} {s : Shared} (I : Inv X pins σ H s) : ∀ {xs : List V} {ds : List D} {vs : List Value}, L2.DpAll X.K H xs ds → Vals xs vs → PySem.W.EachIs (fun v d => ∃ as, Reads s.heap v d as) vs ds
  | _, _, _, .nil, .nil => .nil
  | _, _, _, .cons h t, .cons r q => .cons (L2.Dp.reads I _ _ _ h r) (each_of (K := K) I t q)
theorem each_keeps {h h' : Heap} (k : ∀ b o, h.get? b = some o → h'.get? b = some o) : ∀ {vs : List Value} {ds : List D}, PySem.W.EachIs (fun v d => ∃ as, Reads h v d as) vs ds → PySem.W.EachIs (fun v d => ∃ as, Reads h' v d as) vs ds
  | _, _, .nil => .nil
  | _, _, .cons ⟨as, r⟩ t => .cons ⟨as, Reads.keeps k r⟩ (each_keeps k t)
theorem each_at {h : Heap} : ∀ {vs : List Value} {ds : List D}, PySem.W.EachIs (fun v d => ∃ as, Reads h v d as) vs ds → ∀ (i : Nat) v d, vs[i]? = some v → ds[i]? = some d → ∃ as, Reads h v d as
  | _, _, .nil, i, v, d, e, _ => by simp at e
  | _, _, .cons r t, 0, v, d, e, q => by simp at e q; subst e q; exact r
  | _, _, .cons r t, i + 1, v, d, e, q => each_at t i v d (by simpa using e) (by simpa using q)
theorem each_len {h : Heap} : ∀ {vs : List Value} {ds : List D}, PySem.W.EachIs (fun v d => ∃ as, Reads h v d as) vs ds → vs.length = ds.length
  | _, _, .nil => rfl
  | _, _, .cons _ t => congrArg (· + 1) (each_len t)
theorem vals_at : ∀ {xs : List V} {vs : List Value}, Vals xs vs → ∀ (i : Nat) x v, xs[i]? = some x → vs[i]? = some v → RelV x v
  | _, _, .nil, i, x, v, e, _ => by simp at e
  | _, _, .cons r t, 0, x, v, e, q => by simp at e q; subst e q; exact r
  | _, _, .cons r t, i + 1, x, v, e, q => vals_at t i x v (by simpa using e) (by simpa using q)
theorem vals_tri : ∀ (l : List Tri), (∀ t ∈ l, RelV t.x t.v) → Vals (l.map Tri.x) (l.map Tri.v)
  | [], _ => .nil
  | t :: l, h => .cons (h t List.mem_cons_self) (vals_tri l fun u hu => h u (List.mem_cons_of_mem _ hu))
theorem sort_tri {h : Heap} {vs : List Value} {xs : List V} {ds : List D} (hal : PySem.W.AllAlike ds) (e : PySem.W.EachIs (fun v d => ∃ as, Reads h v d as) vs ds) (l1 : vs.length = ds.length) (l2 : xs.length = ds.length) :
    PySem.W.sortVals (PySem.W.dataKind h ds) false vs vs = ((triOf vs xs ds).mergeSort fun t u => leDt t.d u.d).map Tri.v := by
  obtain ⟨t1, t2, t3⟩ := tri_v l1 l2
  have key : ∀ t ∈ triOf vs xs ds, PySem.W.keyD (PySem.W.dataKind h ds) t.v = PySem.W.keyToks t.d := fun t ht => by
    have r := tri_all (R := fun v _ d => (∃ as, Reads h v d as) ∧ d ∈ ds) l1 l2 (fun i v x d a b c => ⟨each_at e i v d a c, List.mem_of_getElem? c⟩) t ht
    obtain ⟨⟨as, r⟩, m⟩ := r
    exact PySem.W.keyD_some (PySem.W.dataKind_some hal m r)
  have ez : vs.zip vs = (triOf vs xs ds).map fun t => (t.v, t.v) := by
    have : ∀ l : List Tri, (l.map Tri.v).zip (l.map Tri.v) = l.map fun t => (t.v, t.v) := fun l => by
      induction l with
      | nil => rfl
      | cons a l ih => simp [ih]
    rw [← this, t1]
  unfold PySem.W.sortVals
  rw [ez, ← List.map_mergeSort (r := fun t u => leDt t.d u.d), List.map_map]
  · rfl
  · intro a ha b hb
    show leDt a.d b.d = PySem.W.sortLe _ false (fun p : Keyed => PySem.W.keyD (PySem.W.dataKind h ds) p.1) (a.v, a.v) (b.v, b.v)
    show (!PyProof.Rows.lexLt itemOrd (PySem.W.keyToks b.d) (PySem.W.keyToks a.d)) = !(PySem.W.dataKind h ds).blt (PySem.W.keyD (PySem.W.dataKind h ds) b.v) (PySem.W.keyD (PySem.W.dataKind h ds) a.v)
    rw [key a ha, key b hb]
    rfl
/-! tuples, the first one empty -/
section
variable {prog : Program} {w : World} {A : Around} {E : Value → Shared → Prop} {s : Shared}
theorem one_tup {xs ys : List D} {a b : Value} {as bs : List Addr} {Q : Bool → Shared → Prop} (ra : Reads s.heap a (.tuple xs) as) (rb : Reads s.heap b (.tuple ys) bs) (h : PySem.W.alike (.tuple xs) (.tuple ys) = true)
    (hu : A.units + min (PyData.tuple xs).depth (PyData.tuple ys).depth < cLine) (hq : Q (PySem.W.dataLt (.tuple xs) (.tuple ys)) s) : wpAny (model prog w) A (oneLt' true a b) Q E s := by
  have hal : PySem.W.alikeAll xs ys = true := by simpa [PySem.W.alike] using h
  cases ra with
  | @tuple l o vs n _ as₁ h1 h2 h3 h4 =>
    cases rb with
    | @tuple l' o' vs' n' _ bs₁ k1 k2 k3 k4 =>
      obtain ⟨cls, dd, data, sl⟩ := o
      obtain ⟨cls2, dd2, data2, sl2⟩ := o'
      simp only at h2 h3 k2 k3
      subst h2 h3 k2 k3
      have n1 : vs.size = xs.length := by simpa using SeqAt.ReadsAll.length _ _ _ h4
      have n2 : vs'.size = ys.length := by simpa using SeqAt.ReadsAll.length _ _ _ k4
      rw [PySem.W.dataLt_tuple, ← PySem.W.firstLt_toks xs ys hal, ← n1, ← n2] at hq
      rw [oneLt'_eq]
      simp only [if_true]
      refine wpAny_bind (wpAny_cRoomFor (SeqAt.room_here hu) ?_)
      refine wpAny_bind (wpAny_callSpecialIfBound?_slot (T := "tuple") ⟨_, h1, rfl⟩ PySem.F.slot_tuple_lt (call_meets PySem.F.slot_tuple_lt ⟨_, h1, rfl⟩ PySem.F.entry_tuple_lt (PySem.F.args_tuple_lt_2 _ _)
        (SeqAt.tuple_ltAt l l' vs vs' n n' dd dd2 sl sl2 (SeqAt.pairEq xs ys) (fun j => PySem.W.dataLt (xs.getD j .none) (ys.getD j .none))) ⟨h1, k1, fun j j1 j2 => ?_, fun j j1 j2 hj => ?_, wpAny_truthy_bool hq⟩))
      · have := PySem.W.eqAt_alikeAll xs ys A.in1 s vs.toList vs'.toList _ _ h4 k4 hal (SeqAt.room_in hu) j (by simpa using j1) (by simpa using j2)
        simpa using this
      · have := PySem.W.rcLt_alikeAll xs ys A.in1 s vs.toList vs'.toList _ _ h4 k4 hal (SeqAt.room_in hu) j (by simpa using j1) (by simpa using j2) hj
        simpa using this
def firstD : D → Bool
  | .tuple [] => false
  | _ => true
theorem firsts_of {M : Model} : ∀ {vs : List Value} {ds : List D} {Q : List (Option Value) → Shared → Prop}, PySem.W.EachIs (fun v d => ∃ as, Reads s.heap v d as) vs ds → (∀ d ∈ ds, ∃ xs, d = .tuple xs) →
    (∀ fs : List (Option Value), fs.map Option.isSome = ds.map firstD → Q fs s) → wpAny M A (vs.mapM firstOfTuple') Q E s
  | _, _, _, .nil, _, k => by rw [List.mapM_nil]; exact wpAny_pure (k [] rfl)
  | v :: vs, _, Q, .cons (b := d) (bs := ds) ⟨as, r⟩ t, ht, k => by
    obtain ⟨xs, rfl⟩ := ht d List.mem_cons_self
    cases r with
    | @tuple a o us n _ _ ho hc hd hr =>
      rw [List.mapM_cons]
      refine wpAny_bind ?_
      rw [PySem.W.kas_first_eq]
      refine wpAny_bind (PySem.W.Looks.here (show PySem.W.Looks M s.heap (typeOf (.ref a)) o.cls from (PySem.W.Looks.ld ho).andThen .now) ?_)
      rw [hc, if_neg (by first | decide | simp)]
      refine wpAny_bind (listItems_at ho hd (wpAny_pure ?_))
      refine wpAny_bind (firsts_of (Q := fun bs s' => wpAny M A (pure (us[0]? :: bs)) Q E s') t (fun d hd => ht d (List.mem_cons_of_mem _ hd)) fun fs e => wpAny_pure (k _ ?_))
      simp only [List.map_cons, e]
      congr 1
      have n1 : us.size = xs.length := by simpa using SeqAt.ReadsAll.length _ _ _ hr
      cases xs with
      | nil =>
        have : us[0]? = none := Array.getElem?_eq_none (by rw [n1]; simp)
        rw [this]; rfl
      | cons x xs =>
        have lt : 0 < us.size := by rw [n1]; simp
        have : us[0]? = some us[0] := Array.getElem?_eq_getElem lt
        rw [this]; rfl
theorem kind_emp {M : Model} {vs : List Value} {ds : List D} {Q : SortKind → Shared → Prop} (e : PySem.W.EachIs (fun v d => ∃ as, Reads s.heap v d as) vs (.tuple [] :: ds)) (ht : ∀ d ∈ (.tuple [] :: ds : List D), ∃ xs, d = .tuple xs) (h : Q oneType' s) : wpAny M A (keyKind' vs.toArray) Q E s := by
  rw [keyKind'_eq, List.mapM_toArray, map_eq_pure_bind]
  refine wpAny_bind (wpAny_bind (firsts_of e ht fun fs ef => wpAny_pure ?_))
  obtain ⟨f, fr, rfl⟩ : ∃ f fr, fs = f :: fr := by
    cases fs with
    | nil => simp at ef
    | cons f fr => exact ⟨f, fr, rfl⟩
  have hf : f = none := by
    simp only [List.map_cons, List.cons.injEq] at ef
    have := ef.1
    cases f with
    | none => rfl
    | some v => simp [firstD] at this
  subst hf
  rw [if_neg (by simp), if_neg (by simp)]
  rw [oneTypeOnly'_eq, List.mapM_toArray, map_eq_pure_bind]
  have ty : ∀ v ∈ vs, PySem.W.Looks M s.heap (typeOf v) (Value.type "tuple") := fun v hv => by
    obtain ⟨d, hd, as, r⟩ := e.left v hv
    obtain ⟨xs, rfl⟩ := ht d hd
    exact PySem.W.looks_reads r
  refine wpAny_bind (wpAny_bind (wpAny_bind (PySem.W.kas_mapM (r := Value.type "tuple") _ (fun v hv Q' hq => (ty v hv).here hq) (wpAny_pure ?_))))
  cases e with
  | @cons v _ vs' _ _ t =>
    have hall : ((List.map (fun _ => Value.type "tuple") (v :: vs')).toArray.all fun x => x == Value.type "tuple") = true := by
      simp only [List.all_toArray, List.all_map, List.all_eq_true]
      intro _ _
      rfl
    have h0 : (List.map (fun _ => Value.type "tuple") (v :: vs')).toArray[0]? = some (Value.type "tuple") := by simp
    rw [h0]
    simp only [hall, if_true]
    exact wpAny_pure (wpAny_pure h)
theorem sorts_emp {vs : List Value} {ds : List D} (e : PySem.W.EachIs (fun v d => ∃ as, Reads s.heap v d as) vs (.tuple [] :: ds)) (hal : PySem.W.AllAlike (.tuple [] :: ds)) (ht : ∀ d ∈ (.tuple [] :: ds : List D), ∃ xs, d = .tuple xs) (hu : ∀ d, d ∈ (.tuple [] :: ds : List D) → A.units + d.depth < cLine) :
    PySem.W.SortsAt prog w A s (PySem.W.dataKind s.heap (.tuple [] :: ds)) vs := by
  refine ⟨fun v hv => ?_, oneType', ?_, fun _ E Q hq => kind_emp e ht hq⟩
  · obtain ⟨d, hd, as, r⟩ := e.left v hv
    exact ⟨_, PySem.W.dataKind_some hal hd r⟩
  · intro E x y a b Q ha hb hq
    obtain ⟨d, as, hd, ra, rfl⟩ := PySem.W.dataKind_inv ha
    obtain ⟨d', as', hd', rb, rfl⟩ := PySem.W.dataKind_inv hb
    have hdd := hal d hd d' hd'
    have room := Nat.lt_of_le_of_lt (Nat.add_le_add_left (Nat.min_le_left d.depth d'.depth) A.units) (hu d hd)
    obtain ⟨xs, rfl⟩ := ht d hd
    obtain ⟨ys, rfl⟩ := ht d' hd'
    rw [keyLt'_oneType]
    exact one_tup ra rb hdd room hq
end
def SortQ (ds : List D) : Prop := PySem.W.Sortable ds ∨ ∃ es, ds = .tuple [] :: es ∧ ∀ d ∈ ds, ∃ xs, d = .tuple xs
def rSortD (K : PySem.W.Frag) : List V → Hp → VK → Prop := fun vs H Q => ∃ (a : Addr) (xs : List V) (ds : List D), vs = [.ref a] ∧ (SqL K H a xs ∨ SqT K H a xs) ∧ L2.DpAll K H xs ds ∧ PySem.W.AllAlike ds ∧ SortQ ds ∧ (∀ d ∈ ds, d.depth ≤ 60) ∧
  ∀ (T : List (V × D)) p, T.Perm (xs.zip ds) → T.map (·.2) = ds.mergeSort leDt → H p = none → Q (.ref p) (upd H p (.lst (T.map (·.1))))
theorem cr_sortD {X : Cx} (hu : X.A.units + 65 < cLine) : CallR X (.builtin "sorted") (rSortD X.K) := by
  intro pins s σ H vs us Q I r h
  obtain ⟨a, xs, ds, rfl, hq, hdp, hal, hsb, hdep, q⟩ := h
  rw [Vals.ref1 r]
  obtain ⟨its, T, o, n, rv, hT, ho, hc, hd, hz⟩ : ∃ (its : List Value) (T : String) (o : Obj) (n : Nat), Vals xs its ∧ (T = "list" ∨ T = "tuple") ∧ s.heap.get? a = some o ∧ o.cls = .type T ∧ o.data = .seq its.toArray n ∧ its.length ≤ sizeLine := by
    rcases hq with hq | hq
    · obtain ⟨its, rv, p, hz⟩ := I.list hq
      obtain ⟨o, ho, hc, n, hd⟩ := id p.isList
      exact ⟨its, "list", o, n, rv, .inl rfl, ho, hc, hd, by rw [← rv.length]; exact hz⟩
    · obtain ⟨its, rv, p, hz⟩ := I.tuple hq
      obtain ⟨o, ho, hc, n, hd⟩ := (show s.heap.IsTuple a its.toArray from p)
      exact ⟨its, "tuple", o, n, rv, .inr rfl, ho, hc, hd, by rw [← rv.length]; exact hz⟩
  have e := each_of (K := X.K) I hdp rv
  have l1 : its.length = ds.length := each_len e
  have l2 : xs.length = ds.length := by rw [rv.length]; exact l1
  have tv := tri_v l1 l2
  refine sorted_seq (out := ((triOf its xs ds).mergeSort fun t u => leDt t.d u.d).map Tri.v) hT ho hc hd hz (fun h' k => ?_) fun h' l k nl he => ?_
  · have e' := each_keeps k e
    have hdu : ∀ d, d ∈ ds → X.A.in1.in1.units + d.depth < cLine := fun d hd => by
      have := hdep d hd
      have e2 : X.A.in1.in1.units = X.A.units + 2 := rfl
      rw [e2]
      omega
    refine ⟨_, ?_, sort_tri hal e' l1 l2⟩
    rcases hsb with hsb | ⟨es, rfl, hte⟩
    · exact PySem.W.SortsAt.data (s := { s with heap := h' }) e' hal hsb hdu
    · exact sorts_emp (s := { s with heap := h' }) e' hal hte hdu
  · obtain ⟨en, he⟩ := he
    have hn : H l = none := I.hok.gone nl
    have pm : ((triOf its xs ds).mergeSort fun t u => leDt t.d u.d).Perm (triOf its xs ds) := List.mergeSort_perm _ _
    have rel : ∀ t ∈ (triOf its xs ds).mergeSort (fun t u => leDt t.d u.d), RelV t.x t.v := fun t ht =>
      tri_all (R := fun v x _ => RelV x v) l1 l2 (fun i v x d a b c => vals_at rv i x v b a) t (pm.mem_iff.mp ht)
    have vl := vals_tri _ rel
    have q1 := q (((triOf its xs ds).mergeSort fun t u => leDt t.d u.d).map fun t => (t.x, t.d)) l ?_ ?_ hn
    · rw [List.map_map] at q1
      refine ⟨.ref l, upd H l (.lst (((triOf its xs ds).mergeSort fun t u => leDt t.d u.d).map Tri.x)), I.laidN (t' := s.toks) k nl hn ⟨?_, _, en, vl, he⟩, rfl, q1⟩
      rw [List.length_map, pm.length_eq, ← List.length_map (f := Tri.v), tv.1]
      exact hz
    · have := pm.map fun t => (t.x, t.d)
      refine this.trans (.of_eq ?_)
      have : ∀ l : List Tri, l.map (fun t => (t.x, t.d)) = (l.map Tri.x).zip (l.map Tri.d) := fun l => by
        induction l with
        | nil => rfl
        | cons a l ih => simp [ih]
      rw [this, tv.2.1, tv.2.2]
    · rw [List.map_map]
      show ((triOf its xs ds).mergeSort fun t u => leDt t.d u.d).map Tri.d = _
      rw [List.map_mergeSort (s := leDt) (fun _ _ _ _ => rfl), tv.2.2]
def tupNE : D → Bool
  | .tuple (_ :: _) => true
  | _ => false
def keyNT : D → Bool
  | .none => false
  | .tuple _ => false
  | _ => true
def tupAny : D → Bool
  | .tuple _ => true
  | _ => false
def headE : List D → Bool
  | .tuple [] :: _ => true
  | _ => false
def sortOk (ds : List D) : Bool := (ds.all fun d => ds.all fun e => PySem.W.alike d e) && (ds.all tupNE || ds.all keyNT || (headE ds && ds.all tupAny)) && ds.all (fun d => decide (d.depth ≤ 60)) && PyData.canLayAll0 ds
def sortedD : List D → Option D
  | [.list ds] => if sortOk ds = true then some (.list (ds.mergeSort leDt)) else none
  | [.tuple ds] => if sortOk ds = true then some (.list (ds.mergeSort leDt)) else none
  | _ => none
theorem fit_zip {K : PySem.W.Frag} {H : Hp} : ∀ {xs : List V} {ds : List D}, FitAll K H xs ds → ∀ p ∈ xs.zip ds, Fit K H p.1 p.2
  | _, _, .nil, p, h => by simp at h
  | _, _, .cons a t, p, h => by
    simp only [List.zip_cons_cons, List.mem_cons] at h
    rcases h with rfl | h
    · exact a
    · exact fit_zip t p h
theorem zip_fit {K : PySem.W.Frag} {H : Hp} : ∀ (T : List (V × D)), (∀ p ∈ T, Fit K H p.1 p.2) → FitAll K H (T.map (·.1)) (T.map (·.2))
  | [], _ => .nil
  | p :: T, h => .cons (h p List.mem_cons_self) (zip_fit T fun q hq => h q (List.mem_cons_of_mem _ hq))
theorem cs_sorted {K : PySem.W.Frag} : ClS K (rSortD K) sortedD := ⟨fun {F O fr H vs ds d Q} nb h e k => by
  have main : ∀ (a : Addr) (xs : List V) (es : List D), vs = [.ref a] → (SqL K H a xs ∨ SqT K H a xs) → FitAll K (hp F O fr H) xs es → sortOk es = true → d = .list (es.mergeSort leDt) → rSortD K vs H Q := fun a xs es e1 e2 e3 e4 e5 => by
    subst e5
    simp only [sortOk, Bool.and_eq_true, Bool.or_eq_true, List.all_eq_true, decide_eq_true_eq] at e4
    obtain ⟨⟨⟨c1, c2⟩, c3⟩, c4⟩ := e4
    refine ⟨a, xs, es, e1, e2, (dps_mono hp_le e3).up c4, fun x hx y hy => c1 x hx y hy, ?_, c3, fun T p pm em n => ?_⟩
    · rcases c2 with (c2 | c2) | c2
      · refine .inl (.inl fun x hx => ?_)
        have := c2 x hx
        unfold tupNE at this
        split at this
        · exact ⟨_, _, rfl⟩
        · cases this
      · refine .inl (.inr fun x hx => ⟨fun z => ?_, fun ys z => ?_⟩)
        · have := c2 x hx
          rw [z] at this
          cases this
        · have := c2 x hx
          rw [z] at this
          cases this
      · obtain ⟨c2, c5⟩ := c2
        have ha : ∀ x ∈ es, ∃ ys, x = .tuple ys := fun x hx => by
          have := c5 x hx
          unfold tupAny at this
          split at this
          · exact ⟨_, rfl⟩
          · cases this
        unfold headE at c2
        split at c2
        · exact .inr ⟨_, rfl, ha⟩
        · cases c2
    · refine k _ _ (ext_new n _) (dp_newL n (nb p n) ?_)
      have ff := zip_fit T fun p hp => fit_zip e3 p (pm.mem_iff.mp hp)
      rw [em] at ff
      exact ff
  unfold sortedD at e
  split at e
  · split at e
    · rename_i es c
      cases e
      obtain ⟨v, rfl, q⟩ := dps1 h
      obtain ⟨p, xs, rfl, s1, t1⟩ := dp_lst q
      exact main p xs es rfl (.inl (.inl (rd_mono hp_le s1))) t1 c rfl
    · cases e
  · split at e
    · rename_i es c
      cases e
      obtain ⟨v, rfl, q⟩ := dps1 h
      obtain ⟨p, xs, rfl, s1, t1⟩ := dp_tup q
      exact main p xs es rfl (.inr (sqt_mono hp_le s1)) t1 c rfl
    · cases e
  · cases e⟩
end DL
set_option Elab.async false
set_option linter.all false
set_option maxRecDepth 100000
namespace DL
open PySem L2 PyProof.Rows
/-! x = x[lo:hi], x a list of one's own -/
def sOwnCut (i : Nat) (rl rh : RO) : RS := fun ρ => match ρ[i]? with
  | some (.own ds) => toS (rl ρ) fun lo => toS (rh ρ) fun hi => some (.nx (ρ.set i (.own (cutL ds lo hi))))
  | _ => none
theorem SO.st {K : PySem.W.Frag} {F : Fx} {E : XK} {t : TO} {r : RO} (h : SO K F E t r) {H0 Z O σ H ρ D} (hh : Holds K F H0 Z O σ H ρ) {g : Option Int → Option Out} {o : Out} {Q : Option Int → Hp → Prop} (e : toS (r ρ) g = some o) (er : Aft K F E H0 Z D o)
    (k : ∀ b H1, g b = some o → Ext F H H1 → Holds K F H0 Z O σ H1 ρ → Q b H1) : t σ H Q := by
  rcases toS_cases e with ⟨a, e1, e2⟩ | ⟨c, e1, e2⟩
  · exact h.go hh e1 Err.ok fun d H' q x => by cases q; exact k a H' e2 x (hh.go x)
  · subst e2; exact h.go hh e1 (aft_err hh er) fun d H' q => nomatch q
theorem ds_ownCut (i : Nat) {F : Fx} {E : XK} {X : Cx} {pos : Pos} {x : Str} {lo hi : Option Expr} {tl th : TO} {rl rh : RO} {pos' pos1 pos2 p3 : Pos} (hN : X.N.Nodup) (hl : DO F E X lo tl rl) (hu : DO F E X hi th rh) (hi' : X.N[i]? = some x := by rfl) (hx : Loc X.env.scope x := by first | exact Or.inl rfl | exact Or.inr rfl)
    (hv : Vis X.env.scope x := by first | exact Or.inl rfl | exact Or.inr (Or.inl rfl) | exact Or.inr (Or.inr rfl)) (hd : (x == ("__debug__" : Str)) = false := by decide) (hcd : (x == ("__classdict__" : Str)) = false := by decide)
    (hs : swapsWith (.Subscript (.Name x pos1) (.Slice lo hi none p3) pos2) (some (.Name x pos')) pos.line X.env = pure false := by rfl)
    (hf : X.fn x = true ∨ X.env.scope.names.lookup x = some .local := by first | exact .inl rfl | exact .inr rfl | assumption) : DS F E X (.Assign [.Name x pos'] (.Subscript (.Name x pos1) (.Slice lo hi none p3) pos2) pos) (tAsg (tSl (rSlQ X.K) (tVar i) tl th) (gName i)) (sOwnCut i rl rh) :=
  ⟨ps_set hN hi' hx (pe_slice (sl_list.or (sl_tupA.or sl_str)) (pe_var hi' hv hd hcd) hl.run hu.run) hs hf, ⟨fun {H0 Z O σ H ρ o D} hh e a => by
    unfold sOwnCut at e
    split at e
    · rename_i ds q
      obtain ⟨b, vs, y1, y2, y3, y4⟩ := hh.own i ds q
      refine ⟨_, y2, hl.snd.st hh e a fun lo H1 e1 x1 hh1 => hu.snd.st hh1 e1 a fun hi H2 e2 x2 hh2 => ?_⟩
      cases e2
      obtain ⟨b', vs', z1, z2, z3, z4⟩ := hh2.own i ds q
      rw [y1] at z1
      cases z1
      refine .inl ⟨b, vs', rfl, .inl (Rd.of z3), fun p n => a _ _ _ (hh2.setOwn (ext_new n _) i n upd_same (dps_mono (fun c o q => ?_) (dps_cut z4 lo hi)))⟩
      obtain ⟨q1, q2⟩ := hp_some.mp q
      have ne : c ≠ p := ne_of_none q2 n
      refine hp_some.mpr ⟨fun z => ?_, by rw [upd_ne ne]; exact q2⟩
      rcases z with z | ⟨_, z⟩
      · exact q1 (.inl z)
      · rcases List.mem_cons.mp z with z | z
        · cases z; exact ne rfl
        · exact q1 (.inr ⟨rfl, z⟩)
    · cases e⟩⟩
/-! a body, statement by statement -/
section
variable {r q : RS} {ρ ρ' : En} {o : Option Out}
theorem seq_go (h : r ρ = some (.nx ρ')) (h2 : q ρ' = o) : sSeq r q ρ = o := by unfold sSeq; rw [h]; exact h2
theorem set_go {i : Nat} {e : RE} (d : D) (h : e ρ = some (.ok d)) (h2 : q (ρ.set i (.val d)) = o) : sSeq (sSet i e) q ρ = o := seq_go (by rw [sSet_ap, h]; rfl) h2
theorem expr_go {e : RE} (d : D) (h : e ρ = some (.ok d)) (h2 : q ρ = o) : sSeq (sExpr e) q ρ = o := seq_go (by rw [sExpr_ap, h]; rfl) h2
theorem if_no {c : RT} {s : RS} (h : c ρ = some (.ok false)) (h2 : q ρ = o) : sSeq (sIf c s sNil) q ρ = o := seq_go (by rw [sIf_ap, h]; rfl) h2
theorem ifT_go {c : RT} {s t : RS} (h : c ρ = some (.ok true)) (h2 : sSeq s q ρ = o) : sSeq (sIf c s t) q ρ = o := by
  unfold sSeq at h2 ⊢
  rw [sIf_ap, h]
  exact h2
theorem ifF_go {c : RT} {s t : RS} (h : c ρ = some (.ok false)) (h2 : sSeq t q ρ = o) : sSeq (sIf c s t) q ρ = o := by
  unfold sSeq at h2 ⊢
  rw [sIf_ap, h]
  exact h2
theorem for_go {ri : RA} {rg : RG} {rb : RS} (ds : List D) (h : ri ρ = some (.ok ds)) (hf : forL rg rb ds ρ = some (.nx ρ')) (h2 : q ρ' = o) : sSeq (sFor ri rg rb) q ρ = o := seq_go (by rw [sFor_ap, h]; exact hf) h2
theorem asg_go {e : RE} {rg : RG} (d : D) (h : e ρ = some (.ok d)) (hg : rg d ρ = some ρ') (h2 : q ρ' = o) : sSeq (sAsg e rg) q ρ = o := seq_go (by rw [sAsg_ap, h]; simp [hg]) h2
theorem ret_go {e : RE} {d : D} (h : e ρ = some (.ok d)) : sRet e ρ = some (.rt d) := by rw [sRet_ap, h]; rfl
end
theorem range1_go {ρ : En} {rs : RA} {out : List D} (ds : List D) (h1 : rs ρ = some (.ok ds)) (h2 : range1D ds = some out) : rRange1 rs ρ = some (.ok out) := by
  rw [rRange1_ap, h1, bnd_ok, h2, okO_some]
theorem range2_go {ρ : En} {rs : RA} {out : List D} (ds : List D) (h1 : rs ρ = some (.ok ds)) (h2 : range2D ds = some out) : rRange2 rs ρ = some (.ok out) := by
  rw [rRange2_ap, h1, bnd_ok, h2, okO_some]
/-- a loop by an invariant of its environments -/
theorem for_inv {rg : RG} {rb : RS} (I : Nat → En → Prop) : ∀ (ds : List D) (k : Nat) (ρ : En), I k ρ → (∀ (j : Nat) (d : D) (ρ : En), k ≤ j → ds[j - k]? = some d → I j ρ → ∃ ρ1, rg d ρ = some ρ1 ∧ ∃ ρ2, (rb ρ1 = some (.nx ρ2) ∨ rb ρ1 = some (.ct ρ2)) ∧ I (j + 1) ρ2) →
    ∃ ρ', forL rg rb ds ρ = some (.nx ρ') ∧ I (k + ds.length) ρ'
  | [], k, ρ, h, _ => ⟨ρ, rfl, h⟩
  | d :: ds, k, ρ, h, st => by
    obtain ⟨ρ1, e1, ρ2, e2, h2⟩ := st k d ρ (Nat.le_refl _) (by simp) h
    obtain ⟨ρ', e3, h3⟩ := for_inv I ds (k + 1) ρ2 h2 (fun j d' ρ hj hd hI => st j d' ρ (by omega) (by
      have : j - k = (j - (k + 1)) + 1 := by omega
      rw [this]
      simpa using hd) hI)
    refine ⟨ρ', ?_, by
      have : k + (d :: ds).length = k + 1 + ds.length := by simp; omega
      rw [this]; exact h3⟩
    rw [forL_cons, e1]
    rcases e2 with e2 | e2 <;> simp only [e2] <;> exact e3
end DL
set_option Elab.async false
set_option linter.all false
set_option maxRecDepth 100000
/-! lambdas without parameters: their making writes one table of code objects, all else stays -/
namespace DL
open PySem PySem.Spec L2 PyProof.Rows LamX
def ExtP (P : Addr) (H H' : Hp) : Prop := ∀ b o, b ≠ P → H b = some o → H' b = some o
theorem ExtP.refl (P : Addr) (H : Hp) : ExtP P H H := fun _ _ _ h => h
section
variable {X : Cx} {pins : List (Addr × Obj)} {σ : L2.St} {H : Hp} {s : Shared}
theorem lamNew {c P : Addr} {params : Arguments} {body : Expr} {scope : Scope} {pos : Pos} {E : Value → Shared → Prop} {Q : Value → Shared → Prop} (I : Inv X pins σ H s) (TB : TabB X.base X.mg c P) (hcode : X.env.code = .ref c)
    (hT : TabS H P (X.env.qual ++ "<lambda>")) (hdef : defaultsOf params X.env = ([], [])) (hfree : ∀ y ∈ scope.names, y.2 = .free → ∃ c, X.env.cells.lookup y.1 = some c)
    (h : ∀ (f k : Addr) (pm ctv : Value) (H1 : Hp) (s' : Shared), Inv X pins σ H1 s' → ExtP P H H1 → TabS H1 P (X.env.qual ++ "<lambda>") →
      s'.heap.get? f = some (PySem.W.kla_obj "<lambda>" (X.env.qual ++ "<lambda>") params body scope (cloFrom X.env.cells scope.names []) pm k ctv) → H1 f = none → f ∉ frs X.stack → H1 k = some (CodeO k (X.env.qual ++ "<lambda>")) → Q (.ref f) s') :
    wpAny (model X.prog X.w) X.A (eval (.Lambda params body scope pos) X.env) Q E s := by
  obtain ⟨ps, tabP, trip, among⟩ := hT
  refine PySem.W.kla_eval hdef ?_
  have blt : s.heap.BuiltinsAt X.mg P := TB.bm.keeps I.bk
  have atHeap : s.heap.get? P = some { cls := .none, data := .fields ps } := I.hok P _ tabP
  have noFrame : ∀ f, s.heap.objs.size ≤ f → f ∉ frs X.stack := by
    intro f le mem
    rcases List.mem_cons.mp (I.stkSub _ mem) with same | inner
    · exact absurd (Nat.lt_of_lt_of_le (same ▸ I.lt) le) (Nat.lt_irrefl _)
    · exact I.nofs le inner
  cases found : codeAmong pos ps.toList with
  | some cv =>
    obtain ⟨k, rfl, codeK⟩ := among pos cv found
    refine PySem.W.kla_makeFunctionHit (mg := X.mg) (c := c) (P := P) (ps := ps) (closure_ok hfree) I.ok.glob (I.mod.glob.keeps I.bk) hcode (TB.code.keeps I.bk) atHeap trip found blt fun ctv h' tk keep grow => ?_
    refine h h'.objs.size k ((X.mg "__name__").getD .none) ctv H _ (I.kept fun b o e => Heap.get?_push_of_some _ (keep b o e)) (ExtP.refl P H) ⟨ps, tabP, trip, among⟩ (Heap.get?_push_size _ rfl) (I.hok.fresh grow) (noFrame _ grow) codeK
  | none =>
    refine PySem.W.kla_makeFunction (mg := X.mg) (c := c) (P := P) (ps := ps) (closure_ok hfree) I.ok.glob (I.mod.glob.keeps I.bk) hcode (TB.code.keeps I.bk) atHeap trip found TB.gP blt fun k ctv h' tk keep ge lt rec htb => ?_
    obtain ⟨k2, oc, vs, t, e2, hoc, dat, nam⟩ := rec
    cases e2
    have grow : s.heap.objs.size ≤ h'.objs.size := Nat.le_trans ge (Nat.le_of_lt lt)
    have freeK : H k = none := I.hok.fresh ge
    have I1 := inv_table (t' := tk) (more := #[rawInt pos.line, rawInt pos.col, .ref k]) (h' := h'.push (PySem.W.kla_obj "<lambda>" (X.env.qual ++ "<lambda>") params body scope (cloFrom X.env.cells scope.names []) ((X.mg "__name__").getD .none) k ctv)) I tabP
      (fun b o hb e => Heap.get?_push_of_some _ (keep b o hb e)) (Heap.get?_push_of_some _ htb) ge ⟨oc, vs, t, Heap.get?_push_of_some _ hoc, dat, nam⟩
    have ext : ExtP P H (upd (upd H P (.tbl (ps ++ #[rawInt pos.line, rawInt pos.col, .ref k]))) k (CodeO k (X.env.qual ++ "<lambda>"))) := by
      intro b o nb e
      rw [upd_ne (ne_of_none e freeK), upd_ne nb]
      exact e
    have asList : (ps ++ #[rawInt pos.line, rawInt pos.col, .ref k]).toList = ps.toList ++ [rawInt pos.line, rawInt pos.col, .ref k] := by simp
    refine h h'.objs.size k ((X.mg "__name__").getD .none) ctv _ _ I1 ext ⟨_, by rw [upd_ne (ne_of_none tabP freeK), upd_same], by rw [asList]; exact PySem.TriplesOk_snoc _ _ _ _ trip, fun p' cv hcv => ?_⟩ (Heap.get?_push_size _ rfl) ?_ (noFrame _ grow) upd_same
    · rw [asList] at hcv
      rcases among_app _ trip hcv with old | new
      · obtain ⟨k0, e1, e2⟩ := among p' cv old
        refine ⟨k0, e1, ext _ _ (fun z => ?_) e2⟩
        rw [z, tabP] at e2
        exact codeO_ne ps (Option.some.inj e2).symm
      · exact ⟨k, new, upd_same⟩
    · rw [upd_ne (Nat.ne_of_gt lt), upd_ne (Nat.ne_of_gt (Nat.lt_of_lt_of_le (Heap.lt_size atHeap) grow))]
      exact I.hok.fresh grow
end
def tLamP (P : Addr) (q : Str) (TT : (XK → Hp → VK → Prop) → Hp → VK → Prop) (t : XK → TE) : TE := fun σ H Q => TabS H P q ∧ ∀ H1, ExtP P H H1 → TabS H1 P q → TT (fun E H' Q' => t E σ H' Q') H1 Q
section
variable {X : Cx}
/-- x(lambda: body) -/
theorem peLam {TT : (XK → Hp → VK → Prop) → Hp → VK → Prop} {x a : Str} {g c P : Addr} {k : Nat} {pg : Arguments} {bg : List Stmt} {sg : Scope} {dV kV doc pm cdv ct oc : Value} {an od : Option Addr} {osl : Array (Option Value)} {Ng : List Str}
    {params : Arguments} {body : Expr} {scope : Scope} {t : XK → TE} {p lpos pos : Pos} (hg : Gl X x) (hm : X.mg x = some (.ref g)) (hk : PySem.W.keepIn X.K (.ref g) = true)
    (lk : X.K.lookup g = some ⟨oc, od, .func (PySem.W.fnOf x x pg bg sg dV kV doc pm an cdv ct), osl⟩) (hcg : PySem.W.codeIn X.K cdv x = true) (hb : L2.Binds X.K (PySem.W.fnOf x x pg bg sg dV kV doc pm an cdv ct) [a] []) (Sg : FnScope Ng [a] sg) (hNg : Ng[0]? = some a) (hva : Vis sg a)
    (hG : GivesTo X Ng x sg g cdv bg a (X.env.qual ++ "<lambda>") TT) (TB : TabB X.base X.mg c P) (hcode : X.env.code = .ref c) (hr : Room (k + 2) X.A) (L : LamS X.env.scope scope) (hdef : defaultsOf params X.env = ([], []))
    (hbind : ∀ (q : Str) (cl : List (Str × Addr)) (pm cv ctv : Value), bindArgs (PySem.W.kla_fn "<lambda>" q params body scope cl pm cv ctv) ⟨[], []⟩ = pure [])
    (hbody : ∀ (A : Around) (outer : List Env) (s : Shared) (H : Hp) (E : XK) (f c' : Addr), Room k (A.deeper (lamEnv X scope s.heap.objs.size f c')) → PE (lamCx X A outer s H E scope f c') body (t E))
    (hdb : (x == ("__debug__" : Str)) = false := by decide) (hd : (a == ("__debug__" : Str)) = false := by decide) (hcd : (a == ("__classdict__" : Str)) = false := by decide) :
    PE X (.Call (.Name x p) [.Lambda params body scope lpos] [] pos) (tLamP P (X.env.qual ++ "<lambda>") TT t) := ⟨fun pins s σ H Q I h => by
  refine wpAny_Call_Name_kw (ld_glob I hg hm ?_ hdb)
  refine PySem.W.callWith_K (h₀ := X.base) I.ok.mod.kin hk ?_ (by rfl) (by rfl)
  show wpAny _ _ (spliced ((false, eval (.Lambda params body scope lpos) X.env) :: backTo pos (starEach [] X.env))) _ _ s
  refine Calls.spliced_cons (lamNew I TB hcode h.1 hdef (L.has I.ok) fun f k' pm' ctv H1 s' I1 ext tab atF freeF frF codeK => Calls.spliced_nil ⟨I1.kIn, ?_⟩)
  have run : codeAny (model X.prog X.w) X.A (.call (.ref g) ⟨[.ref f], []⟩) (CR C8.CX0 X.stack X.prog X.w H1 s' Q C8.E0) s' :=
    run_ofS (N := Ng) (ps := [a]) (us := [.ref f]) (vs := [.ref f]) lk hcg Sg hr I1.env0 (hb s' [.ref f] I1.kIn rfl) (.cons rfl .nil) rfl fun hr' => by
      obtain ⟨t', ht', hq'⟩ := hG f k' s' H1 Q (fun E H' Q' => t E σ H' Q') (fun W pn xe E p1 p2 tk hW => pe_act (i := 0) I1 L atF freeF frF (hbind _ _ _ _ _) tk hW hr' (fun A outer s H hr2 => hbody A outer s H E f k' hr2) hNg hva hd hcd) codeK (h.2 H1 ext tab)
      exact ⟨t', ht'.nox, hq'⟩
  refine wpAny_call (codeAny_mono run fun r s2 hq => ?_)
  match r, hq with
  | .error e, hq => exact (show False from hq).elim
  | .ok (.ret u), hq => exact I1.after hq
  | .ok .next, hq => exact False.elim hq
  | .ok .brk, hq => exact False.elim hq
  | .ok .cont, hq => exact False.elim hq⟩
end
/-! the maker's heap -/
def tabF (exc : Cn → Value) (B : Addr → Prop) (P : Addr) (q : Str) : Fx where
  exc := exc
  bad := fun a => B a ∨ a = P
  mu := fun a => a = P
  sub := fun _ h => .inr h
  inv := fun H => TabS H P q
  mono := fun _ _ s h => h.ext s
  lst := fun H a xs ys e h => by
    obtain ⟨ps, h1, h2, h3⟩ := h
    refine ⟨ps, ?_, h2, fun pos cv hc => ?_⟩
    · rw [upd_ne (fun z => by rw [z, e] at h1; cases h1)]; exact h1
    · obtain ⟨c, e1, e2⟩ := h3 pos cv hc
      refine ⟨c, e1, ?_⟩
      rw [upd_ne (fun z => by
        rw [z, e] at e2
        unfold CodeO at e2
        cases e2)]
      exact e2
theorem ext_P {exc : Cn → Value} {B : Addr → Prop} {P : Addr} {q : Str} {H H1 : Hp} (e : ExtP P H H1) (t : TabS H1 P q) : Ext (tabF exc B P q) H H1 := by
  refine ⟨fun a o n h => e a o n h, fun a h => ?_, fun _ => t⟩
  by_cases z : a = P
  · obtain ⟨ps, h1, _⟩ := t
    rw [z, h1]
    exact fun z => nomatch z
  · cases c : H a with
    | none => exact absurd c h
    | some o => rw [e a o z c]; exact fun z => nomatch z
theorem plus_no (F : Fx) : (F.plus fun _ => False) = F := by
  obtain ⟨a, b, c, d, e, f, g⟩ := F
  simp [Fx.plus]
/-! what a body asks, as a reading -/
def canS (K : PySem.W.Frag) (exc : Cn → Value) (E : XK) (r : RS) : TS := fun D σ H => ∃ (B : Addr → Prop) (H0 Z : Hp) (O : List (Option Addr)) (ρ : En) (o : Out), Holds K (pureF exc B) H0 Z O σ H ρ ∧ r ρ = some o ∧ Aft K (pureF exc B) E H0 Z D o
theorem can_pss {X : Cx} {exc : Cn → Value} {E : XK} {sts : List Stmt} {r : RS} (h : ∀ B, ∃ t, DSs (pureF exc B) E X sts t r) : PSs X sts (canS X.K exc E r) := ⟨fun pins s σ H D I q => by
  obtain ⟨B, H0, Z, O, ρ, o, hh, e, a⟩ := q
  obtain ⟨t, d⟩ := h B
  exact d.run.run pins s σ H D I (d.snd.go hh e a)⟩
end DL
set_option Elab.async false
set_option linter.all false
set_option maxRecDepth 100000
namespace DL
open PySem PySem.Spec L2 PyProof.Rows LamX
/-! ### exception classes of the program -/
structure ExcK (K : PySem.W.Frag) (mg : Str → Option Value) (x : Str) (C : Addr) : Prop where
  gC : mg x = some (.ref C)
  kC : PySem.W.keepIn K (.ref C) = true
  ex : PySem.W.excIn K C [.type "ValueError", .type "Exception", .type "BaseException", .type "object"] "ValueError.__new__" = true
  sub : PySem.W.subIn K (.ref C) (.type "BaseException") = some true
  ty : PySem.W.typeIn K (.ref C) = some (.type "type")
def ExcD (K : PySem.W.Frag) (mg : Str → Option Value) (exc : Cn → Value) (c : Cn) : Prop := ∃ C, exc c = .ref C ∧ ExcK K mg (Str.ofString c) C
theorem ds_raiseD {F : Fx} {E : XK} {X : Cx} {c : Cn} {x m : Str} {j : Nat} {p p2 pos pos2 : Pos} (h : ExcD X.K X.mg F.exc c) (hx : Str.ofString c = x) (hc : X.calm = true) (tk : Takes X (fun cls d _ H => E cls d H)) (hg : Gl X x := by rfl) (hdb : (x == ("__debug__" : Str)) = false := by decide) :
    DS F E X (.Raise (some (.Call (.Name x p) [.Constant (.str m) j p2] [] pos)) none pos2) (fun _ _ H => E (F.exc c) none H) (sRaise c) := by
  obtain ⟨C, e, k⟩ := h
  subst hx
  rw [e]
  exact ds_raise hc tk (pmk_own _root_.PySem.F.excBase_ValueError k.ex k.gC k.kC (raises_own k.sub k.ty) hg hdb) e
/-! ### methods of lists -/
def lstR (d : D) (k : List D → R D) : R D := match d with
  | .list xs => k xs
  | _ => none
@[simp] theorem lstR_lst (xs : List D) (k : List D → R D) : lstR (.list xs) k = k xs := rfl
def rMt (g : List D → List D → Option D) (ro : RE) (rs : RA) : RE := fun ρ => bnd (ro ρ) fun d => lstR d fun xs => bnd (rs ρ) fun ds => okO (g xs ds)
@[simp] theorem rMt_ap (g : List D → List D → Option D) (ro : RE) (rs : RA) (ρ : En) : rMt g ro rs ρ = bnd (ro ρ) fun d => lstR d fun xs => bnd (rs ρ) fun ds => okO (g xs ds) := rfl
structure MtL (K : PySem.W.Frag) (r : V → List V → Hp → VK → Prop) (g : List D → List D → Option D) : Prop where
  go : ∀ {F : Fx} {O : List (Option Addr)} {fr : Bool} {H : Hp} {v : V} {vs : List V} {xs : List D} {ds : List D} {o : D} {Q : VK}, (∀ p, H p = none → ¬ (F.bad p ∨ (fr = true ∧ some p ∈ O))) → Fit K (hp F O fr H) v (.list xs) → FitAll K (hp F O fr H) vs ds → g xs ds = some o →
    (∀ v H', Ext F H H' → Fit K (hp F O fr H') v o → Q v H') → r v vs H Q
section
variable {F : Fx} {E : XK} {X : Cx} {fr : Bool}
theorem se_ml {K : PySem.W.Frag} {r : V → List V → Hp → VK → Prop} {g : List D → List D → Option D} {to : TE} {t : TA} {ro : RE} {rs : RA} (hs : MtL K r g) (ho : SE K F E fr to ro) (ha : SA K F E fr t rs) : SE K F E fr (tBM K "list" r to t) (rMt g ro rs) :=
  ⟨fun {H0 Z O σ H ρ o Q} hh e er k => ho.bnd hh e er fun d v H1 e1 x1 hh1 d1 => by
    cases d with
    | list xs =>
      have ty : tyV K "list" v H1 := by
        obtain ⟨p, vs, rfl, s1, t1⟩ := dp_lst d1
        exact .inl ⟨rfl, _, .inl (rd_mono hp_le s1)⟩
      refine ⟨ty, ha.bnd hh1 e1 (er.go x1) fun ds vs H2 e2 x2 hh2 d2 => ?_⟩
      obtain ⟨d', e4, rfl⟩ := okO_eq e2
      exact hs.go (fun p n => hh2.fresh n) (dp_mono (hp_ext x2) d1) d2 e4 fun u H3 x3 d3 => k _ u H3 rfl ((x1.trans x2).trans x3) d3
    | _ => cases e1⟩
theorem de_ml {o e : Expr} {es : List Expr} {name : Str} {id : String} {apos pos : Pos} {r : V → List V → Hp → VK → Prop} {g : List D → List D → Option D} {to : TE} {t : TA} {ro : RE} {rs : RA} (hs : MtL X.K r g) (slot : Slot "list" name id) (hty : typeOf (.builtin id) = pure (.type "method_descriptor")) (hm : MtR X id r) (ho : DE F E X fr o to ro) (ha : DA F E X fr (e :: es) t rs)
    (hbase : attributeBase o name X.env (eval o X.env) = eval o X.env := by rfl)
    (hfew : ((backTo pos (starEach (e :: es) X.env)).all (fun x => !x.1) && (backToKw pos (keywordEach [] X.env)).all (fun x => x.1.isSome)
      && decide ((e :: es).length + ([] : List Keyword).length + (if ([] : List Keyword).isEmpty then 0 else 1) < 30)) = true := by rfl)
    (hline : (apos.endLine == pos.line) = true := by rfl) (hst : starEach (e :: es) X.env = (false, eval e X.env) :: starEach es X.env := by rfl) (hplain : (backTo pos (starEach es X.env)).any (·.1) = false := by rfl) :
    DE F E X fr (.Call (.Attribute o name apos) (e :: es) [] pos) (tBM X.K "list" r to t) (rMt g ro rs) := ⟨pe_bm PySem.F.plainAttrs_list slot hty hm ho.run ha.run hbase hfew hline hst hplain, se_ml hs ho.snd ha.snd⟩
end
def countL (xs ds : List D) : Option D := match ds with
  | [d] => if SeqAt.shaped (.list xs) = true ∧ SeqAt.shaped d = true ∧ PyData.plainAll xs = true ∧ d.plain = true then some (.int ((xs.countP fun y => PyData.eqv y d : Nat) : Int)) else none
  | _ => none
def rCountD (K : PySem.W.Frag) : V → List V → Hp → VK → Prop := fun x xs H Q => ∃ (a : Addr) (y : V) (d : PyData) (ds : List PyData), x = V.ref a ∧ xs = [y] ∧ Dp K H (V.ref a) (.list ds) ∧ Dp K H y d ∧ SeqAt.shaped (.list ds) = true ∧ SeqAt.shaped d = true ∧ PyData.plainAll ds = true ∧ d.plain = true ∧ Q (.int ((ds.countP fun y => PyData.eqv y d : Nat) : Int)) H
theorem mt_countD {X : Cx} (hu : X.A.units + 65 < cLine) : MtR X "list.count" (rCountD X.K) := by
  intro pins s σ H x xs v us Q I rx rxs h
  obtain ⟨a, y, d, ds, rfl, rfl, hl, hy, sl, sd, pl, pd, q⟩ := h
  cases rx
  cases rxs with
  | cons ry rt =>
    rename_i uy ut
    cases rt
    obtain ⟨bs, r1⟩ := Dp.reads I d y uy hy ry
    have hroom : X.A.units + 1 + min (PyData.depthAll ds) d.depth < cLine := room_in_shaped sd hu
    cases hl with
    | lst hs ha =>
      obtain ⟨its, rv, ⟨⟨cls, dd, data, sls⟩, n, ho, hc, hdn, hdt⟩, hlen⟩ := I.list hs
      simp only at hc hdt
      subst hc hdt
      obtain ⟨as, h4⟩ := Dp.readsAll I ds _ its ha rv
      exact SeqAt.count_list_data (vs := its.toArray) ⟨_, ho, rfl, _, rfl⟩ (by simpa using h4) r1 pl pd hroom ⟨.int _, H, I.tok _, ⟨_, rfl⟩, q⟩
theorem ml_count {K : PySem.W.Frag} : MtL K (rCountD K) countL := ⟨fun {F O fr H v vs xs ds o Q} nb h1 h2 e k => by
  unfold countL at e
  split at e
  · split at e
    · rename_i d c
      obtain ⟨y, rfl, q⟩ := dps1 h2
      cases e
      have w1 := Fit.up (SeqAt.canLay_of_shaped c.1) (dp_mono hp_le h1)
      obtain ⟨p, ws, rfl, s1, t1⟩ := dp_lst h1
      exact ⟨p, y, d, xs, rfl, rfl, w1, Fit.up (SeqAt.canLay_of_shaped c.2.1) (dp_mono hp_le q), c.1, c.2.1, c.2.2.1, c.2.2.2, k _ H (Ext.refl _ _) (.int _)⟩
    · cases e
  · cases e⟩
def indexL (xs ds : List D) : Option D := match ds with
  | [d] => if SeqAt.shaped (.list xs) = true ∧ SeqAt.shaped d = true then (xs.findIdx? fun y => PyData.eqv y d).map fun j => .int (j : Nat) else none
  | _ => none
theorem ml_index {K : PySem.W.Frag} : MtL K (rIndexD K) indexL := ⟨fun {F O fr H v vs xs ds o Q} nb h1 h2 e k => by
  unfold indexL at e
  split at e
  · split at e
    · rename_i d c
      obtain ⟨y, rfl, q⟩ := dps1 h2
      obtain ⟨j, e1, rfl⟩ := Option.map_eq_some_iff.mp e
      have w1 := Fit.up (SeqAt.canLay_of_shaped c.1) (dp_mono hp_le h1)
      obtain ⟨p, ws, rfl, s1, t1⟩ := dp_lst h1
      obtain ⟨hj, h3, h4⟩ := List.findIdx?_eq_some_iff_getElem.mp e1
      refine ⟨p, y, d, xs, j, xs[j], rfl, rfl, w1, Fit.up (SeqAt.canLay_of_shaped c.2) (dp_mono hp_le q), c.1, c.2, List.getElem?_eq_getElem hj, h3, fun m z hm hz => ?_, k _ H (Ext.refl _ _) (.int _)⟩
      obtain ⟨hm', rfl⟩ := List.getElem?_eq_some_iff.mp hz
      simpa using h4 m hm
    · cases e
  · cases e⟩
end DL
set_option Elab.async false
set_option linter.all false
set_option maxRecDepth 100000
namespace DL
open PySem PySem.Spec L2 PyProof.Rows LamX
def idxC (c : Cn) : Option Int := if c = "NoSheet" then some 0 else if c = "NoPart" then some 1 else if c = "NoRow" then some 2 else if c = "NoText" then some 3 else none
def toldV (x : R D) : R D := match x with
  | some (.ok d) => some (.ok (.tuple [.str (Str.ofString "told"), d]))
  | some (.error c) => (idxC c).map fun i => .ok (.tuple [.str (Str.ofString "refused"), .int i])
  | none => none
def rTold (re : RE) : RE := fun ρ => toldV (re ρ)
@[simp] theorem rTold_ap (re : RE) (ρ : En) : rTold re ρ = toldV (re ρ) := rfl
@[simp] theorem toldV_ok (d : D) : toldV (some (.ok d)) = some (.ok (.tuple [.str (Str.ofString "told"), d])) := rfl
def ToldE (K : PySem.W.Frag) (exc : Cn → Value) (Q : VK) : XK := fun cls d H' => d = none ∧ ∃ c i, idxC c = some i ∧ cls = exc c ∧ ∀ v H'', Same H' H'' → Fit K (hp (pureF exc fun a => H' a ≠ none) [] false H'') v (.tuple [.str (Str.ofString "refused"), .int i]) → Q v H''
def TToldD (K : PySem.W.Frag) (exc : Cn → Value) : (XK → Hp → VK → Prop) → Hp → VK → Prop := fun tl H Q =>
  tl (ToldE K exc Q) H fun v H' => 2 ≤ sizeLine ∧ ∀ p, H' p = none → ∃ u, some (some (V.ref p)) = some (some u) ∧ Q u (upd H' p (.tup [.str (Str.ofString "told"), v]))
theorem se_told {K : PySem.W.Frag} {exc : Cn → Value} {B : Addr → Prop} {P : Addr} {q : Str} {E : XK} {fr : Bool} {re : RE} :
    SE K (tabF exc B P q) E fr (tLamP P q (TToldD K exc) fun E => canE K (tabF exc B P q) E fr re) (rTold re) := ⟨fun {H0 Z O σ H ρ o Q} hh e er k => by
  refine ⟨hh.ok, fun H1 ext tab => ?_⟩
  have x1 : Ext (tabF exc B P q) H H1 := ext_P ext tab
  have h1 := hh.go x1
  unfold rTold at e
  cases c : re ρ with
  | none => rw [c] at e; cases e
  | some o' =>
    rw [c] at e
    refine ⟨fun _ => False, H0, Z, O, ρ, o', by rw [plus_no]; exact h1, c, ?_, ?_⟩
    · rw [plus_no]
      intro c' hc H' x
      subst hc
      obtain ⟨i, e1, e2⟩ := Option.map_eq_some_iff.mp (show (idxC c').map (fun i => (.ok (.tuple [.str (Str.ofString "refused"), .int i]) : Except Cn D)) = some o from e)
      subst e2
      refine ⟨rfl, c', i, e1, rfl, fun v H'' s d => k _ v H'' rfl ((x1.trans x).trans (Ext.of s)) (dp_mono (fun a u z => ?_) d)⟩
      obtain ⟨z1, z2⟩ := hp_some.mp z
      have nn : H' a = none := Classical.byContradiction fun w => z1 (.inl w)
      exact hp_some.mpr ⟨(h1.go x).fresh nn, z2⟩
    · rw [plus_no]
      intro d v H' hc x dd
      subst hc
      cases e
      refine ⟨sz1000 (by decide), fun p np => ⟨_, rfl, ?_⟩⟩
      exact k _ _ _ rfl ((x1.trans x).trans (ext_new np _)) (dp_newT np ((h1.go x).fresh np) (.cons (.str _) (.cons dd .nil)))⟩
section
variable {X : Cx}
/-- x(lambda: body), x the teller -/
theorem de_told {exc : Cn → Value} {B : Addr → Prop} {E : XK} {fr : Bool} {re : RE} {x a : Str} {g c P : Addr} {k : Nat} {pg : Arguments} {bg : List Stmt} {sg : Scope} {dV kV doc pm cdv ct oc : Value} {an od : Option Addr} {osl : Array (Option Value)} {Ng : List Str}
    {params : Arguments} {body : Expr} {scope : Scope} {p lpos pos : Pos} {q : Str} (hm : X.mg x = some (.ref g)) (hk : PySem.W.keepIn X.K (.ref g) = true)
    (lk : X.K.lookup g = some ⟨oc, od, .func (PySem.W.fnOf x x pg bg sg dV kV doc pm an cdv ct), osl⟩) (hcg : PySem.W.codeIn X.K cdv x = true) (hb : L2.Binds X.K (PySem.W.fnOf x x pg bg sg dV kV doc pm an cdv ct) [a] []) (Sg : FnScope Ng [a] sg) (hNg : Ng[0]? = some a) (hva : Vis sg a)
    (hG : GivesTo X Ng x sg g cdv bg a q (TToldD X.K exc)) (TB : TabB X.base X.mg c P) (hr : Room (k + 2) X.A) (L : LamS X.env.scope scope)
    (hbody : ∀ (A : Around) (outer : List Env) (s : Shared) (H : Hp) (E : XK) (f c' : Addr), Room k (A.deeper (lamEnv X scope s.heap.objs.size f c')) → ∀ B', ∃ t, DE ((tabF exc B P q).plus B') E (lamCx X A outer s H E scope f c') fr body t re)
    (hq : q = X.env.qual ++ "<lambda>" := by rfl) (hcode : X.env.code = .ref c := by rfl) (hg : Gl X x := by rfl) (hdef : defaultsOf params X.env = ([], []) := by rfl)
    (hbind : ∀ (q : Str) (cl : List (Str × Addr)) (pm cv ctv : Value), bindArgs (PySem.W.kla_fn "<lambda>" q params body scope cl pm cv ctv) ⟨[], []⟩ = pure [] := by intro _ _ _ _ _; rfl)
    (hdb : (x == ("__debug__" : Str)) = false := by decide) (hd : (a == ("__debug__" : Str)) = false := by decide) (hcd : (a == ("__classdict__" : Str)) = false := by decide) :
    DE (tabF exc B P q) E X fr (.Call (.Name x p) [.Lambda params body scope lpos] [] pos) (tLamP P q (TToldD X.K exc) fun E => canE X.K (tabF exc B P q) E fr re) (rTold re) := by
  subst hq
  exact ⟨peLam hg hm hk lk hcg hb Sg hNg hva hG TB hcode hr L hdef hbind (fun A outer s H E f c' hr' => can_pe (X := lamCx X A outer s H E scope f c') fun B' => hbody A outer s H E f c' hr' B') hdb hd hcd, se_told⟩
end
/-! ### the teller's suite -/
def rIsX (j : Nat) (a : Addr) (b : Bool) : RE := fun ρ => match ρ[j]? with
  | some (.raw (.ref a')) => if a' = a then some (.ok (.bool b)) else none
  | _ => none
theorem de_isX {F : Fx} {E : XK} {X : Cx} {fr : Bool} {a D : Addr} {oe : Obj} {pn : List (Addr × Obj)} (C : ExcC X.K D) (hz : Zc (.ref D) none oe) (hf : ∃ vs, oe.data = .fields vs) (j : Nat) {x : Str} {ec : Expr} {v : V} {cv : Value} {b : Bool} {p px pos : Pos} (hm : X.mg "isinstance" = none)
    (hc : PE (X.suite a ((a, oe) :: pn)) ec (tC v)) (hv : ∀ u, RelV v u → u = cv) (hk : PySem.W.kitOne X.K (.ref D) cv = some b) (hN : X.N[j]? = some x := by rfl) (hvis : Vis X.env.scope x := by first | exact Or.inl rfl | exact Or.inr (Or.inl rfl) | exact Or.inr (Or.inr rfl))
    (hb : bootBuiltins "isinstance" = some (.builtin "isinstance") := by decide +kernel) (hg : Gl X "isinstance" := by rfl) (hd : (x == ("__debug__" : Str)) = false := by decide) (hcd : (x == ("__classdict__" : Str)) = false := by decide)
    (he : starEach [.Name x px, ec] X.env = (false, eval (.Name x px) X.env) :: starEach [ec] X.env := by rfl) (he2 : starEach [ec] X.env = (false, eval ec X.env) :: starEach [] X.env := by rfl)
    (hpl : (backTo pos (starEach [ec] X.env)).any (·.1) = false := by rfl) :
    DE F E (X.suite a ((a, oe) :: pn)) fr (.Call (.Name "isinstance" p) [.Name x px, ec] [] pos) (tCB (rIsE X.K D a) (tCons (tVar j) (tCons (tC v) tNil))) (rIsX j a b) :=
  ⟨pe_callB (X := X.suite a ((a, oe) :: pn)) (call_isE C hz hf) hg hm hb (pa_cons (pe_var hN hvis hd hcd) (pa_cons hc pa_nil he2) he) (by decide) (by decide) he hpl, ⟨fun {H0 Z O σ H ρ o Q} hh e er k => by
    unfold rIsX at e
    split at e
    · rename_i a' q
      split at e
      · rename_i ea
        subst ea
        cases e
        exact ⟨_, hh.raw j _ q, v, cv, b, rfl, hv, hk, k _ _ H rfl (Ext.refl _ _) (.bl _)⟩
      · cases e
    · cases e⟩⟩
theorem Takes.len {X : Cx} {W : WX} (t : Takes X W) : Takes X (fun cls d σ H => σ.length = X.N.length → W cls d σ H) := fun u s' ⟨a, B, sI, pins, σ, H, cls, d, e, I, nb, up, sky, na, os, ag, w⟩ =>
  t u s' ⟨a, B, sI, pins, σ, H, cls, d, e, I, nb, up, sky, na, os, ag, w I.len⟩
def nmC : Nat → Cn
  | 0 => "NoSheet"
  | 1 => "NoPart"
  | 2 => "NoRow"
  | _ => "NoText"
theorem idx_nm {c : Cn} {i : Int} (h : idxC c = some i) : ∃ j, j < 4 ∧ c = nmC j ∧ i = (j : Nat) := by
  unfold idxC at h
  split at h
  · cases h; exact ⟨0, by omega, by assumption, rfl⟩
  · split at h
    · cases h; exact ⟨1, by omega, by assumption, rfl⟩
    · split at h
      · cases h; exact ⟨2, by omega, by assumption, rfl⟩
      · split at h
        · cases h; exact ⟨3, by omega, by assumption, rfl⟩
        · cases h
/-- what the teller asks of the classes: pe its handler's -/
structure ToldK (K : PySem.W.Frag) (mg : Str → Option Value) (exc : Cn → Value) (pe : Addr) (A : Nat → Addr) : Prop where
  gp : mg "PartError" = some (.ref pe)
  g0 : mg "NoSheet" = some (.ref (A 0))
  g1 : mg "NoPart" = some (.ref (A 1))
  g2 : mg "NoRow" = some (.ref (A 2))
  g3 : mg "NoText" = some (.ref (A 3))
  ex : ∀ j, j < 4 → exc (nmC j) = .ref (A j)
  cl : ∀ j, j < 4 → ExcC K (A j)
  ha : ∀ j, j < 4 → PySem.W.exmOne K (.ref (A j)) (.ref pe) = some true
  ve : ∀ j, j < 4 → PySem.W.kitOne K (.ref (A j)) (.type "ValueError") = some true
  kit : ∀ i j, i < 4 → j < 4 → PySem.W.kitOne K (.ref (A i)) (.ref (A j)) = some (decide (i = j))
def rSuite (a : Addr) (i : Nat) : RS := sSeq (sSet 2 (rLst (rCons (rIsX 3 a (decide (i = 0))) (rCons (rIsX 3 a (decide (i = 1))) (rCons (rIsX 3 a (decide (i = 2))) (rCons (rIsX 3 a (decide (i = 3))) rNil))))))
  (sSeq (sSet 1 (rTup (rCons (rC (.str (Str.ofString "refused"))) (rCons (rUn negD (rC (.int 1))) rNil))))
    (sIf (rAnd (rTst (rIsX 3 a true)) (rTst (rOp eqD (rMt countL (rVar 2) (rCons (rC (.bool true)) rNil)) (rC (.int 1)))))
      (sSet 1 (rTup (rCons (rC (.str (Str.ofString "refused"))) (rCons (rMt indexL (rVar 2) (rCons (rC (.bool true)) rNil)) rNil)))) sNil))
theorem rIsX_ap (a : Addr) (b : Bool) (x y z : SV) : rIsX 3 a b [x, y, z, .raw (.ref a)] = some (.ok (.bool b)) := by
  simp [rIsX]
theorem rSuite_ok (a : Addr) (i : Nat) (hi : i < 4) : ∃ z, rSuite a i [.no, .no, .no, .raw (.ref a)] = some (.nx [.no, .val (.tuple [.str (Str.ofString "refused"), .int (i : Nat)]), z, .raw (.ref a)]) := by
  have c0 : countL [.bool true, .bool false, .bool false, .bool false] [.bool true] = some (.int 1) := by first | rfl | (simp [countL, indexL, SeqAt.shaped, PyData.canLay0, PyData.canLayAll0, PyData.depth, PyData.depthAll, PyData.plainAll, PyData.plain, PyData.eqv, List.findIdx?_cons])
  have c1 : countL [.bool false, .bool true, .bool false, .bool false] [.bool true] = some (.int 1) := by first | rfl | (simp [countL, indexL, SeqAt.shaped, PyData.canLay0, PyData.canLayAll0, PyData.depth, PyData.depthAll, PyData.plainAll, PyData.plain, PyData.eqv, List.findIdx?_cons])
  have c2 : countL [.bool false, .bool false, .bool true, .bool false] [.bool true] = some (.int 1) := by first | rfl | (simp [countL, indexL, SeqAt.shaped, PyData.canLay0, PyData.canLayAll0, PyData.depth, PyData.depthAll, PyData.plainAll, PyData.plain, PyData.eqv, List.findIdx?_cons])
  have c3 : countL [.bool false, .bool false, .bool false, .bool true] [.bool true] = some (.int 1) := by first | rfl | (simp [countL, indexL, SeqAt.shaped, PyData.canLay0, PyData.canLayAll0, PyData.depth, PyData.depthAll, PyData.plainAll, PyData.plain, PyData.eqv, List.findIdx?_cons])
  have i0 : indexL [.bool true, .bool false, .bool false, .bool false] [.bool true] = some (.int 0) := by first | rfl | (simp [countL, indexL, SeqAt.shaped, PyData.canLay0, PyData.canLayAll0, PyData.depth, PyData.depthAll, PyData.plainAll, PyData.plain, PyData.eqv, List.findIdx?_cons])
  have i1 : indexL [.bool false, .bool true, .bool false, .bool false] [.bool true] = some (.int 1) := by first | rfl | (simp [countL, indexL, SeqAt.shaped, PyData.canLay0, PyData.canLayAll0, PyData.depth, PyData.depthAll, PyData.plainAll, PyData.plain, PyData.eqv, List.findIdx?_cons])
  have i2 : indexL [.bool false, .bool false, .bool true, .bool false] [.bool true] = some (.int 2) := by first | rfl | (simp [countL, indexL, SeqAt.shaped, PyData.canLay0, PyData.canLayAll0, PyData.depth, PyData.depthAll, PyData.plainAll, PyData.plain, PyData.eqv, List.findIdx?_cons])
  have i3 : indexL [.bool false, .bool false, .bool false, .bool true] [.bool true] = some (.int 3) := by first | rfl | (simp [countL, indexL, SeqAt.shaped, PyData.canLay0, PyData.canLayAll0, PyData.depth, PyData.depthAll, PyData.plainAll, PyData.plain, PyData.eqv, List.findIdx?_cons])
  have h4 : i = 0 ∨ i = 1 ∨ i = 2 ∨ i = 3 := by omega
  rcases h4 with rfl | rfl | rfl | rfl <;> exact ⟨_, by simp [rSuite, rIsX_ap, c0, c1, c2, c3, i0, i1, i2, i3]; rfl⟩
end DL
set_option Elab.async false
set_option linter.all false
set_option maxRecDepth 100000
namespace DL
open PySem PySem.Spec L2 PyProof.Rows LamX
/-! ### a law that makes lambdas -/
def spT (K : PySem.W.Frag) (P : Addr) (m : List D → R D) : Sp := fun vs H Q _ => ∃ (a : Addr) (ns : List Int), vs = [.ref a] ∧ SqL K H a (ns.map V.int) ∧ H P = some (.tbl #[]) ∧ m [scriptD ns] = some (.ok (.bool true)) ∧ ∀ H', Q (.bl true) H'
theorem holds_tab {K : PySem.W.Frag} {exc : Cn → Value} {P a : Addr} {q : Str} {H : Hp} {ns : List Int} {N : List Str} (hs : SqL K H a (ns.map V.int)) (ht : H P = some (.tbl #[])) (hN : 1 ≤ N.length) :
    Holds K (tabF exc (fun _ => False) P q) H (fun _ => none) (List.replicate N.length none) (start N [.ref a]) H ([scriptD ns].map SV.val ++ List.replicate (N.length - 1) SV.no) := by
  have nO : ∀ a : Addr, some a ∉ List.replicate N.length (none : Option Addr) := fun a z => by
    have := (List.mem_replicate.mp z).2
    cases this
  refine ⟨?_, ?_, fun i d e => ?_, fun i d e => ?_, fun i d e => ?_, fun i d e => ?_, fun i j a e => absurd (List.mem_of_getElem? e) (nO a), fun a e => absurd e (nO a), fun b z => ?_, Ext.refl _ _, fun _ _ z => (nomatch z), fun i a e => absurd (List.mem_of_getElem? e) (nO a), TabS.nil ht⟩
  · unfold L2.start
    simp only [List.length_append, List.length_map, List.length_replicate]
    simp
  · simp only [List.length_append, List.length_map, List.length_replicate, List.length_singleton]
    omega
  · cases i with
    | zero =>
      have e' : SV.val (scriptD ns) = .val d := Option.some.inj e
      cases e'
      refine ⟨.ref a, rfl, .ro ?_ (FitAll.ints ns)⟩
      have up : ∀ o, (∀ ps, o ≠ .tbl ps) → H a = some o → hp (tabF exc (fun _ => False) P q) (List.replicate N.length none) true H a = some o := fun o no ho => hp_some.mpr ⟨fun z => by
        rcases z with (z | z) | z
        · exact z
        · rw [z, ht] at ho
          exact no _ (Option.some.inj ho).symm
        · exact nO _ z.2, ho⟩
      rcases hs with (h | ⟨o, h⟩) | h
      · exact .inl (.inl (up _ (fun ps z => nomatch z) h))
      · exact .inl (.inr ⟨o, up _ (fun ps z => nomatch z) h⟩)
      · exact .inr h
    | succ i =>
      have e' : (List.replicate (N.length - 1) SV.no)[i]? = some (.val d) := by simpa using e
      cases (List.mem_replicate.mp (List.mem_of_getElem? e')).2
  · rcases List.mem_append.mp (List.mem_of_getElem? e) with z | z
    · obtain ⟨d', _, e2⟩ := List.mem_map.mp z
      cases e2
    · cases (List.mem_replicate.mp z).2
  · rcases List.mem_append.mp (List.mem_of_getElem? e) with z | z
    · obtain ⟨d', _, e2⟩ := List.mem_map.mp z
      cases e2
    · cases (List.mem_replicate.mp z).2
  · rcases List.mem_append.mp (List.mem_of_getElem? e) with z | z
    · obtain ⟨d', _, e2⟩ := List.mem_map.mp z
      cases e2
    · cases (List.mem_replicate.mp z).2
  · rcases z with z | z
    · exact z.elim
    · rw [z, ht]; exact fun z => nomatch z
theorem law_okT {Pr : Program} {w : World} {K : PySem.W.Frag} {mg : Str → Option Value} {base : Heap} {exc : Cn → Value} {x : Str} {st : Stmt} {f c P : Addr} {oc kV doc pm ct : Value} {an od : Option Addr} {osl : Array (Option Value)} {N ps : List Str} {k : Nat} {r : RS} {q : Str}
    (lk : K.lookup f = some ⟨oc, od, .func (PySem.W.fnOf x x (defArgs st) (defBody st) (defScope st) .none kV doc pm an (.ref c) ct), osl⟩) (hcd : PySem.W.codeIn K (.ref c) x = true) (S : FnScope N ps (defScope st)) (hn : ps.length = 1)
    (body : ∀ (A : Around) (outer : List Env) (s : Shared) (H : Hp) (E : XK) (B : Addr → Prop), Room k (A.deeper (PyProof.Rows.envOfC x (defScope st) s.heap.objs.size f (.ref c))) →
      ∃ t, DSs (tabF exc B P q) E (cxOf (L2.CX Pr w) Pr w K mg base N x (defScope st) f (.ref c) A outer s H E) (defBody st) t r) :
    FnOk Pr w K mg base (L2.CX Pr w) (k + 1) f (PySem.W.fnOf x x (defArgs st) (defBody st) (defScope st) .none kV doc pm an (.ref c) ct) ps (spT K P (fnSem N.length r)) := by
  refine fn_of lk hcd S (fun vs H Q E h => ?_) fun A outer s H vs Q E hr h => ?_
  · obtain ⟨a, ns, rfl, _⟩ := h
    exact hn.symm
  · obtain ⟨a, ns, rfl, hs, ht, e, k1⟩ := h
    obtain ⟨t, dd⟩ := body A outer s H E (fun _ => False) hr
    refine ⟨t, dd.run, ?_⟩
    have hle : 1 ≤ N.length := by
      have z := congrArg List.length S.pre
      rw [List.length_take] at z
      omega
    have hh := holds_tab (exc := exc) (q := q) hs ht hle
    unfold fnSem at e
    cases cr : r ([scriptD ns].map SV.val ++ List.replicate (N.length - 1) SV.no) with
    | none => simp only [List.length_singleton, cr] at e; cases e
    | some o1 =>
      simp only [List.length_singleton, cr] at e
      refine dd.snd.go hh cr ?_
      cases o1 with
      | nx ρ => cases e
      | bk ρ => cases e
      | ct ρ => cases e
      | ex c => cases e
      | rt d =>
        cases e
        intro v H' x d'
        rw [dp_bool d']
        exact k1 H'
theorem walkT {l : PySem.W.OpenLaw} {k : Nat} {q : Program} {loose : List Str} {XP : (Str → Option Value) → Heap → Prop} {YP : World → Heap → Prop} {d : DefRec} {K : Params → PySem.W.Frag} {m : List D → R D} (hn : l.most = some 63) (hdf : d.params.defaults = []) (hr : Room k callerA)
    (hrec : (recsOf q).find? (fun e => e.name == d.name) = some d) (hY : ∀ (w : World) (h : Heap), YP w h → (K w.params).In h) (hm : ∀ ns : List Int, ns.length ≤ 63 → m [scriptD ns] = some (.ok (.bool true)))
    (F : ∀ (w : World) (mg : Str → Option Value) (fa : Addr) (h : Heap), (K w.params).In h → h.Ns mainGlobals mg → mg d.name = some (.ref fa) →
      ∃ (fd : FuncData) (c P : Addr), PySem.W.tabIn (K w.params) d.name = some (c, P) ∧ (K w.params).lookup P = none ∧ (∀ (s : Shared) (u : Value), BindsTo s fd ⟨[u], []⟩ [("script", u)]) ∧
        ∀ base : Heap, (K w.params).In base → base.Ns mainGlobals mg → TabB base mg c P → FnOk l.prog w (K w.params) mg base (L2.CX l.prog w) k fa fd ["script"] (spT (K w.params) P m)) :
    PySem.W.WalkO q loose XP YP l.row.toRowW d [] (fun f vs => PySem.call f vs) := by
  refine Att.attach_callB hn hdf fun w s₀ s₁ mg mb fa o pm cd doc a vs ns G Y ho hd hcd hmg hobj hints hlen hbits hg => ?_
  have KX := hY w _ Y
  obtain ⟨fd, c, P, ht, hp, hb, hF⟩ := F w mg fa _ KX G.T.g hmg
  obtain ⟨hc, hP⟩ := PySem.W.tab_of G.T KX hrec ht
  refine law_callTs (cs := [(c, P)]) (sp := spT (K w.params) P m) KX G.T.g G.T.b G.T.builtins G.T.nolimit hg (fun p z => ?_) (fun p z => ?_) (fun p z => ?_) G.T.bmain hobj hints (Nat.le_trans hlen (by decide)) hr (fun base k1 k2 k3 => hF base k1 k2 (k3 (c, P) List.mem_cons_self)) hb (fun H hH hS => ⟨a, ns, rfl, hS, hH (c, P) List.mem_cons_self, hm ns hlen, fun _ => rfl⟩) fun H e s' z => ?_
  · rw [List.mem_singleton.mp z]; exact hP
  · rw [List.mem_singleton.mp z]; exact hp
  · rw [List.mem_singleton.mp z]; exact hc
  · obtain ⟨_, _, _, _, _, _, _, _, _, _, _, _, z⟩ := z
    exact z
theorem tab_in {K : PySem.W.Frag} {x : Str} {f c P : Addr} {oc oc2 : Value} {od od2 : Option Addr} {fd : FuncData} {osl osl2 : Array (Option Value)} {vs : Array Value} (a : PySem.W.nsIn K mainGlobals x = some (some (.ref f))) (l : K.lookup f = some ⟨oc, od, .func fd, osl⟩) (e : fd.code = .ref c) (l2 : K.lookup c = some ⟨oc2, od2, .fields vs, osl2⟩) (v : vs[11]? = some (.ref P)) : PySem.W.tabIn K x = some (c, P) := by
  unfold PySem.W.tabIn
  rw [a]
  simp only [l, e, l2, v]
theorem lam_px {X : Cx} {A : Around} {outer : List Env} {s : Shared} {H : Hp} {E : XK} {scope : Scope} {f c' : Addr} : Passes (L2.CX (lamCx X A outer s H E scope f c').prog (lamCx X A outer s H E scope f c').w) (lamCx X A outer s H E scope f c') E := passD (X := lamCx X A outer s H E scope f c') (takes_of rfl rfl rfl rfl)
/-! ### classes -/
structure CK (K : PySem.W.Frag) (C : Addr) : Prop where
  h1 : PySem.W.findIn K (.ref C) "__getattribute__" = some (some (.builtin "BaseException.__getattribute__"))
  h2 : PySem.W.findIn K (.ref C) "__getattr__" = some none
  h3 : PySem.W.subIn K (.ref C) (.type "BaseException") = some true
  h4 : PySem.W.hasDictIn K C = true
  h5 : PySem.W.findIn K (.ref C) "__class__" = some (some (.builtin "object.__class__"))
  h6 : PySem.W.specialIn K (.builtin "object.__class__") "__get__" = some (some (.builtin "getset_descriptor.__get__"))
  h7 : PySem.W.takesIn K (.builtin "object.__class__") = some true
  h8 : PySem.W.mroIn K C (.type "object") = some true
  h9 : PySem.W.typeIn K (.ref C) = some (.type "type")
theorem CK.ex {K : PySem.W.Frag} {C : Addr} (h : CK K C) : ExcC K C := ⟨h.h1, h.h2, h.h3, h.h4, h.h5, h.h6, h.h7, h.h8⟩
theorem kit_self {K : PySem.W.Frag} {C : Addr} : PySem.W.kitOne K (.ref C) (.ref C) = some true := by
  unfold PySem.W.kitOne
  rw [if_pos (beq_self_eq_true _)]
theorem kit_ref {K : PySem.W.Frag} {C C' : Addr} {b : Bool} (hne : (Value.ref C == Value.ref C') = false) (h : CK K C') (s : PySem.W.subIn K (.ref C) (.ref C') = some b) : PySem.W.kitOne K (.ref C) (.ref C') = some b := by
  unfold PySem.W.kitOne
  rw [hne, if_neg Bool.false_ne_true]
  unfold PySem.W.kitCls
  obtain ⟨cd, hc, _⟩ := PySem.W.any_some h.h4
  simp only [hc, h.h9, Option.isSome_some, Bool.true_and, beq_self_eq_true, if_true]
  exact s
theorem kit_val {K : PySem.W.Frag} {C : Addr} {T : String} {b : Bool} (hm : PySem.W.kitMeta T = true) (s : PySem.W.subIn K (.ref C) (.type T) = some b) : PySem.W.kitOne K (.ref C) (.type T) = some b := by
  unfold PySem.W.kitOne
  rw [if_neg (fun z => by simp at z)]
  unfold PySem.W.kitCls
  simp only [hm, if_true]
  exact s
def excOf (C0 C1 C2 C3 : Addr) : Cn → Value := fun c => if c = "NoSheet" then .ref C0 else if c = "NoPart" then .ref C1 else if c = "NoRow" then .ref C2 else if c = "NoText" then .ref C3 else .none
def acOf (C0 C1 C2 C3 : Addr) : Nat → Addr
  | 0 => C0
  | 1 => C1
  | 2 => C2
  | _ => C3
section
variable {K : PySem.W.Frag} {mg : Str → Option Value} {pe C0 C1 C2 C3 : Addr}
/-- one class is no other -/
structure Apart (K : PySem.W.Frag) (C C' : Addr) : Prop where
  n : (Value.ref C == Value.ref C') = false
  s : PySem.W.subIn K (.ref C) (.ref C') = some false
structure Under (K : PySem.W.Frag) (pe C : Addr) : Prop where
  p : PySem.W.subIn K (.ref C) (.ref pe) = some true
  v : PySem.W.subIn K (.ref C) (.type "ValueError") = some true
theorem exc0 : excOf C0 C1 C2 C3 "NoSheet" = .ref C0 := by simp [excOf]
theorem exc1 : excOf C0 C1 C2 C3 "NoPart" = .ref C1 := by simp [excOf]
theorem exc2 : excOf C0 C1 C2 C3 "NoRow" = .ref C2 := by simp [excOf]
theorem exc3 : excOf C0 C1 C2 C3 "NoText" = .ref C3 := by simp [excOf]
theorem four {p : Nat → Prop} (h0 : p 0) (h1 : p 1) (h2 : p 2) (h3 : p 3) : ∀ j, j < 4 → p j := fun j hj => by
  have : j = 0 ∨ j = 1 ∨ j = 2 ∨ j = 3 := by omega
  rcases this with rfl | rfl | rfl | rfl <;> assumption
theorem told_mk (gp : mg "PartError" = some (.ref pe)) (g0 : mg "NoSheet" = some (.ref C0)) (g1 : mg "NoPart" = some (.ref C1)) (g2 : mg "NoRow" = some (.ref C2)) (g3 : mg "NoText" = some (.ref C3)) (kp : CK K pe) (k0 : CK K C0) (k1 : CK K C1) (k2 : CK K C2) (k3 : CK K C3)
    (u0 : Under K pe C0) (u1 : Under K pe C1) (u2 : Under K pe C2) (u3 : Under K pe C3) (a01 : Apart K C0 C1) (a02 : Apart K C0 C2) (a03 : Apart K C0 C3) (a10 : Apart K C1 C0) (a12 : Apart K C1 C2) (a13 : Apart K C1 C3) (a20 : Apart K C2 C0) (a21 : Apart K C2 C1) (a23 : Apart K C2 C3) (a30 : Apart K C3 C0) (a31 : Apart K C3 C1) (a32 : Apart K C3 C2) :
    ToldK K mg (excOf C0 C1 C2 C3) pe (acOf C0 C1 C2 C3) where
  gp := gp
  g0 := g0
  g1 := g1
  g2 := g2
  g3 := g3
  ex := four exc0 exc1 exc2 exc3
  cl := four k0.ex k1.ex k2.ex k3.ex
  ha := four (PySem.W.exm_ref kp.h3 kp.h4 kp.h9 u0.p) (PySem.W.exm_ref kp.h3 kp.h4 kp.h9 u1.p) (PySem.W.exm_ref kp.h3 kp.h4 kp.h9 u2.p) (PySem.W.exm_ref kp.h3 kp.h4 kp.h9 u3.p)
  ve := four (kit_val (by decide +kernel) u0.v) (kit_val (by decide +kernel) u1.v) (kit_val (by decide +kernel) u2.v) (kit_val (by decide +kernel) u3.v)
  kit := fun i j hi hj => by
    revert j
    revert i
    exact four (fun j hj => (four (p := fun j => PySem.W.kitOne K (.ref C0) (.ref (acOf C0 C1 C2 C3 j)) = some (decide (0 = j))) kit_self (kit_ref a01.n k1 a01.s) (kit_ref a02.n k2 a02.s) (kit_ref a03.n k3 a03.s)) j hj)
      (fun j hj => (four (p := fun j => PySem.W.kitOne K (.ref C1) (.ref (acOf C0 C1 C2 C3 j)) = some (decide (1 = j))) (kit_ref a10.n k0 a10.s) kit_self (kit_ref a12.n k2 a12.s) (kit_ref a13.n k3 a13.s)) j hj)
      (fun j hj => (four (p := fun j => PySem.W.kitOne K (.ref C2) (.ref (acOf C0 C1 C2 C3 j)) = some (decide (2 = j))) (kit_ref a20.n k0 a20.s) (kit_ref a21.n k1 a21.s) kit_self (kit_ref a23.n k3 a23.s)) j hj)
      (fun j hj => (four (p := fun j => PySem.W.kitOne K (.ref C3) (.ref (acOf C0 C1 C2 C3 j)) = some (decide (3 = j))) (kit_ref a30.n k0 a30.s) (kit_ref a31.n k1 a31.s) (kit_ref a32.n k2 a32.s) kit_self) j hj)
end
end DL
set_option Elab.async false
set_option linter.all false
set_option maxRecDepth 100000
namespace DL
open PySem PySem.Spec L2 PyProof.Rows
/-! ### max, min, sum of whole numbers -/
def intsD : List D → Option (List Int)
  | [] => some []
  | .int i :: ds => (intsD ds).map (i :: ·)
  | _ :: _ => none
theorem ints_fit {K : PySem.W.Frag} {H : Hp} : ∀ {vs : List V} {ds : List D} {ns : List Int}, FitAll K H vs ds → intsD ds = some ns → vs = ns.map V.int
  | _, [], _, .nil, e => by cases e; rfl
  | _, .int i :: ds, ns, .cons h t, e => by
    obtain ⟨cs, e1, rfl⟩ := Option.map_eq_some_iff.mp (show (intsD ds).map (i :: ·) = some ns from e)
    rw [dp_int h, ints_fit t e1]
    rfl
  | _, .none :: _, _, .cons _ _, e => nomatch e
  | _, .bool _ :: _, _, .cons _ _, e => nomatch e
  | _, .str _ :: _, _, .cons _ _, e => nomatch e
  | _, .list _ :: _, _, .cons _ _, e => nomatch e
  | _, .tuple _ :: _, _, .cons _ _, e => nomatch e
  | _, .dict _ :: _, _, .cons _ _, e => nomatch e
theorem ints_map : ∀ ns : List Int, intsD (ns.map PyData.int) = some ns
  | [] => rfl
  | n :: r => by simp [intsD, ints_map r]
def maxI : List Int → Option Int
  | [] => none
  | x :: xs => some (xs.foldl (fun a b => if a < b then b else a) x)
def minI : List Int → Option Int
  | [] => none
  | x :: xs => some (xs.foldl (fun a b => if b < a then b else a) x)
theorem max_fold : ∀ (xs : List Int) (x : Int), (xs.foldl (fun a b => if a < b then b else a) x = x ∨ xs.foldl (fun a b => if a < b then b else a) x ∈ xs) ∧ x ≤ xs.foldl (fun a b => if a < b then b else a) x ∧ ∀ y ∈ xs, y ≤ xs.foldl (fun a b => if a < b then b else a) x
  | [], x => ⟨.inl rfl, Int.le_refl _, fun y h => by simp at h⟩
  | b :: xs, x => by
    obtain ⟨h1, h2, h3⟩ := max_fold xs (if x < b then b else x)
    simp only [List.foldl_cons]
    generalize hm : xs.foldl (fun a b => if a < b then b else a) (if x < b then b else x) = m at h1 h2 h3
    refine ⟨?_, ?_, fun y hy => ?_⟩
    · rcases h1 with h1 | h1
      · split at h1
        · exact .inr (by rw [h1]; exact List.mem_cons_self)
        · exact .inl h1
      · exact .inr (List.mem_cons_of_mem _ h1)
    · split at h2 <;> omega
    · rcases List.mem_cons.mp hy with rfl | hy
      · split at h2 <;> omega
      · exact h3 y hy
theorem min_fold : ∀ (xs : List Int) (x : Int), (xs.foldl (fun a b => if b < a then b else a) x = x ∨ xs.foldl (fun a b => if b < a then b else a) x ∈ xs) ∧ xs.foldl (fun a b => if b < a then b else a) x ≤ x ∧ ∀ y ∈ xs, xs.foldl (fun a b => if b < a then b else a) x ≤ y
  | [], x => ⟨.inl rfl, Int.le_refl _, fun y h => by simp at h⟩
  | b :: xs, x => by
    obtain ⟨h1, h2, h3⟩ := min_fold xs (if b < x then b else x)
    simp only [List.foldl_cons]
    generalize hm : xs.foldl (fun a b => if b < a then b else a) (if b < x then b else x) = m at h1 h2 h3
    refine ⟨?_, ?_, fun y hy => ?_⟩
    · rcases h1 with h1 | h1
      · split at h1
        · exact .inr (by rw [h1]; exact List.mem_cons_self)
        · exact .inl h1
      · exact .inr (List.mem_cons_of_mem _ h1)
    · split at h2 <;> omega
    · rcases List.mem_cons.mp hy with rfl | hy
      · split at h2 <;> omega
      · exact h3 y hy
theorem maxI_spec {ns : List Int} {m : Int} : maxI ns = some m ↔ m ∈ ns ∧ ∀ y ∈ ns, y ≤ m := by
  have a : ∀ {ns : List Int} {m : Int}, maxI ns = some m → m ∈ ns ∧ ∀ y ∈ ns, y ≤ m := fun {ns m} h => by
    cases ns with
    | nil => cases h
    | cons x xs =>
      obtain ⟨h1, h2, h3⟩ := max_fold xs x
      cases h
      refine ⟨?_, fun y hy => ?_⟩
      · rcases h1 with h1 | h1
        · rw [h1]; exact List.mem_cons_self
        · exact List.mem_cons_of_mem _ h1
      · rcases List.mem_cons.mp hy with rfl | hy
        · exact h2
        · exact h3 y hy
  refine ⟨a, fun ⟨h1, h2⟩ => ?_⟩
  cases c : maxI ns with
  | none =>
    cases ns with
    | nil => simp at h1
    | cons x xs => cases c
  | some k =>
    obtain ⟨q1, q2⟩ := a c
    have := h2 k q1
    have := q2 m h1
    congr 1
    omega
theorem minI_spec {ns : List Int} {m : Int} : minI ns = some m ↔ m ∈ ns ∧ ∀ y ∈ ns, m ≤ y := by
  have a : ∀ {ns : List Int} {m : Int}, minI ns = some m → m ∈ ns ∧ ∀ y ∈ ns, m ≤ y := fun {ns m} h => by
    cases ns with
    | nil => cases h
    | cons x xs =>
      obtain ⟨h1, h2, h3⟩ := min_fold xs x
      cases h
      refine ⟨?_, fun y hy => ?_⟩
      · rcases h1 with h1 | h1
        · rw [h1]; exact List.mem_cons_self
        · exact List.mem_cons_of_mem _ h1
      · rcases List.mem_cons.mp hy with rfl | hy
        · exact h2
        · exact h3 y hy
  refine ⟨a, fun ⟨h1, h2⟩ => ?_⟩
  cases c : minI ns with
  | none =>
    cases ns with
    | nil => simp at h1
    | cons x xs => cases c
  | some k =>
    obtain ⟨q1, q2⟩ := a c
    have := h2 k q1
    have := q2 m h1
    congr 1
    omega
def maxD : List D → Option D
  | [.list ds] => (intsD ds).bind fun ns => (maxI ns).map .int
  | [.int i, .int j] => some (.int (if j > i then j else i))
  | _ => none
abbrev rMaxQ (K : PySem.W.Frag) : List V → Hp → VK → Prop := fun xs H Q => rMax K xs H Q ∨ ∃ i j, xs = [.int i, .int j] ∧ Q (.int (if j > i then j else i)) H
theorem cs_max {K : PySem.W.Frag} : ClS K (rMaxQ K) maxD := ⟨fun {F O fr H vs ds d Q} nb h e k => by
  unfold maxD at e
  split at e
  · obtain ⟨ns, e1, e2⟩ := Option.bind_eq_some_iff.mp e
    obtain ⟨m, e3, rfl⟩ := Option.map_eq_some_iff.mp e2
    obtain ⟨v, rfl, q⟩ := dps1 h
    obtain ⟨p, vs, rfl, s1, t1⟩ := dp_lst q
    have ev := ints_fit t1 e1
    subst ev
    obtain ⟨m1, m2⟩ := maxI_spec.mp e3
    refine .inl ⟨p, ns, rfl, .inl (rd_mono hp_le s1), List.length_pos_iff.mpr (fun z => by rw [z] at m1; simp at m1), fun m' h1 h2 => ?_⟩
    have em : m' = m := by
      have := m2 m' h1
      have := h2 m m1
      omega
    rw [em]
    exact k _ H (Ext.refl _ _) (.int _)
  · cases e
    obtain ⟨v, w, rfl, q1, q2⟩ := dps2 h
    exact .inr ⟨_, _, by rw [dp_int q1, dp_int q2], k _ H (Ext.refl _ _) (.int _)⟩
  · cases e⟩
theorem call_maxQ {X : Cx} (hc : X.calm = true) : CallR X (.builtin "max") (rMaxQ X.K) := (cr_max hc).or (call_max2 hc)
def minD : List D → Option D
  | [.list ds] => (intsD ds).bind fun ns => (minI ns).map .int
  | [.int i, .int j] => some (.int (if j < i then j else i))
  | _ => none
abbrev rMinQ (K : PySem.W.Frag) : List V → Hp → VK → Prop := fun xs H Q => rMin K xs H Q ∨ ∃ i j, xs = [.int i, .int j] ∧ Q (.int (if j < i then j else i)) H
theorem cs_min {K : PySem.W.Frag} : ClS K (rMinQ K) minD := ⟨fun {F O fr H vs ds d Q} nb h e k => by
  unfold minD at e
  split at e
  · obtain ⟨ns, e1, e2⟩ := Option.bind_eq_some_iff.mp e
    obtain ⟨m, e3, rfl⟩ := Option.map_eq_some_iff.mp e2
    obtain ⟨v, rfl, q⟩ := dps1 h
    obtain ⟨p, vs, rfl, s1, t1⟩ := dp_lst q
    have ev := ints_fit t1 e1
    subst ev
    obtain ⟨m1, m2⟩ := minI_spec.mp e3
    refine .inl ⟨p, ns, rfl, .inl (rd_mono hp_le s1), List.length_pos_iff.mpr (fun z => by rw [z] at m1; simp at m1), fun m' h1 h2 => ?_⟩
    have em : m' = m := by
      have := m2 m' h1
      have := h2 m m1
      omega
    rw [em]
    exact k _ H (Ext.refl _ _) (.int _)
  · cases e
    obtain ⟨v, w, rfl, q1, q2⟩ := dps2 h
    exact .inr ⟨_, _, by rw [dp_int q1, dp_int q2], k _ H (Ext.refl _ _) (.int _)⟩
  · cases e⟩
theorem call_minQ {X : Cx} (hc : X.calm = true) : CallR X (.builtin "min") (rMinQ X.K) := (cr_min hc).or (call_min2 hc)
def sumD : List D → Option D
  | [.list ds] => (intsD ds).map fun ns => .int ns.sum
  | _ => none
theorem cs_sum {K : PySem.W.Frag} : ClS K (rSum K) sumD := ⟨fun {F O fr H vs ds d Q} nb h e k => by
  unfold sumD at e
  split at e
  · obtain ⟨ns, e1, rfl⟩ := Option.map_eq_some_iff.mp e
    obtain ⟨v, rfl, q⟩ := dps1 h
    obtain ⟨p, vs, rfl, s1, t1⟩ := dp_lst q
    have ev := ints_fit t1 e1
    subst ev
    exact ⟨p, ns, rfl, .inl (rd_mono hp_le s1), k _ H (Ext.refl _ _) (.int _)⟩
  · cases e⟩
def absD : List D → Option D
  | [.int i] => some (.int (if i < 0 then -i else i))
  | _ => none
theorem cs_abs {K : PySem.W.Frag} : ClS K (fun xs H Q => ∃ i, xs = [.int i] ∧ Q (.int (if i < 0 then -i else i)) H) absD := ⟨fun {F O fr H vs ds d Q} nb h e k => by
  unfold absD at e
  split at e
  · cases e
    obtain ⟨v, rfl, q⟩ := dps1 h
    exact ⟨_, by rw [dp_int q], k _ H (Ext.refl _ _) (.int _)⟩
  · cases e⟩
end DL
set_option Elab.async false
set_option linter.all false
set_option maxRecDepth 100000
/-! Dicts whose keys are tuples of ints: dict(pairs), k in d, d[k]. -/
namespace DL
open PySem L2 PyProof.Rows
abbrev NK (is : List Int) : NestedKey := .tup (is.map .num)
theorem nums_inj : ∀ {is js : List Int}, is.map NestedKey.num = js.map NestedKey.num → is = js
  | [], [], _ => rfl
  | [], _ :: _, e => by simp at e
  | _ :: _, [], e => by simp at e
  | i :: is, j :: js, e => by
    simp only [List.map_cons, List.cons.injEq, NestedKey.num.injEq] at e
    rw [e.1, nums_inj e.2]
theorem nk_inj {is js : List Int} : NK is = NK js ↔ is = js := ⟨fun e => nums_inj (by simpa [NK] using e), fun e => by rw [e]⟩
theorem nums_depth : ∀ is : List Int, NestedKey.depthAll (is.map .num) = 0
  | [] => rfl
  | i :: is => by rw [List.map_cons, NestedKey.depthAll, nums_depth is]; rfl
theorem nums_hash (w w' : World) : ∀ is : List Int, NestedKey.hashes w (is.map .num) = NestedKey.hashes w' (is.map .num)
  | [] => rfl
  | i :: is => by rw [List.map_cons, NestedKey.hashes, NestedKey.hashes, nums_hash w w' is]; rfl
theorem nk_hash (w w' : World) (is : List Int) : (NK is).hash w = (NK is).hash w' := by
  unfold NK
  rw [NestedKey.hash, NestedKey.hash, nums_hash w w']
theorem nums_all {h : Heap} : ∀ {is : List Int} {us : List Value}, Vals (is.map V.int) us → NestedAll h (is.map .num) us
  | [], _, r => by cases r; exact .nil
  | i :: is, _, r => by
    rw [List.map_cons] at r
    cases r with
    | cons a b =>
      obtain ⟨t, rfl⟩ : ∃ t, _ = Value.int i t := a
      exact .cons (.int _ _) (nums_all b)
section
variable {X : Cx} {pins : List (Addr × Obj)} {σ : L2.St} {H : Hp} {s : Shared}
theorem nk_is (I : Inv X pins σ H s) {b : Addr} {is : List Int} (h : SqT X.K H b (is.map V.int)) : (nestedKind X.prog X.w).is s.heap (NK is) b := by
  obtain ⟨its, r, ⟨o, ho, hc, n, hd⟩, _⟩ := I.tuple h
  exact ⟨.tup ho hc hd (nums_all r), by unfold NK; rw [NestedKey.depth, nums_depth]; decide⟩
theorem dic_of (I : Inv X pins σ H s) {a : Addr} {es : List DictEntry} {xs : List (NestedKey × Addr × Value)} {vs : List V} (h : H a = some (DicF a es)) (k : DicK X.K H es xs vs) :
    (a == sysModules) = false ∧ s.heap.DictOfH (nestedKind X.prog X.w) a xs := by
  obtain ⟨⟨hm, o, ep, ho, hc, hd⟩, _, _⟩ := I.hok a _ h
  refine ⟨hm, o, es.toArray, ep, ho, hc, hd, ?_, fun x hx => ?_, k.nd⟩
  · show es = _
    exact k.ent X.prog X.w
  · obtain ⟨is, e1, e2⟩ := k.key x hx
    rw [e1]
    exact nk_is I e2
end
def rInDic (K : PySem.W.Frag) : R2 := fun x y H Q => ∃ a es xs vs b is, y = .ref a ∧ H a = some (DicF a es) ∧ DicK K H es xs vs ∧ x = .ref b ∧ SqT K H b (is.map V.int) ∧ Q (.bl (atKey xs (NK is)).isSome) H
def rIxDic (K : PySem.W.Frag) : R2 := fun x y H Q => ∃ a es xs vs b is b' u v, x = .ref a ∧ H a = some (DicF a es) ∧ DicK K H es xs vs ∧ y = .ref b ∧ SqT K H b (is.map V.int) ∧ atKey xs (NK is) = some (b', u) ∧ RelV v u ∧ Q v H
theorem room_nk {P : Program} {w : World} {A : Around} (hu : A.units + 65 < cLine) : (nestedKind P w).room A.in1 := by
  show A.in1.units + 8 < cLine
  have e : A.in1.units ≤ A.units + 1 := by
    first | exact Nat.le_refl _ | (unfold Around.in1; simp; omega) | (simp [Around.in1]; omega)
  omega
section
variable {X : Cx}
theorem op_inDic (hu : X.A.units + 65 < cLine) : OpR X (compareOp .In) (rInDic X.K) := by
  intro pins s σ H x y v u Q I rx ry h
  obtain ⟨a, es, xs, vs, b, is, rfl, h1, h2, rfl, h3, q⟩ := h
  cases rx
  cases ry
  obtain ⟨hm, hd⟩ := dic_of I h1 h2
  exact wpAny_in_heap (room_nk hu) (nk_is I h3) hm hd ⟨.bl _, H, I.tok _, rfl, q⟩
theorem ix_dic (hu : X.A.units + 65 < cLine) {o i : Expr} {to ti : TE} {pos : Pos} (ho : PE X o to) (hi : PE X i ti) (hs : NoSl i) : PE X (.Subscript o i pos) (tOp (rIxDic X.K) to ti) := by
  refine ⟨fun pins s σ H Q I h => ?_⟩
  refine subD_of PySem.F.slot_dict_getitem.lookup hs (thn (ho.run pins s σ H _ I h) fun u s1 ⟨x, H1, I1, rx, q1⟩ => thn (hi.run pins s1 σ H1 _ I1 q1) fun iv s2 ⟨y, H2, I2, ry, q2⟩ => ?_)
  obtain ⟨a, es, xs, vs, b, is, b', u', v, rfl, h1, h2, rfl, h3, e, rv, q⟩ := q2
  cases rx
  cases ry
  obtain ⟨hm, hd⟩ := dic_of I2 h1 h2
  exact ⟨hd.typeIs, wpAny_getItem_heap (room_nk hu) (nk_is I2 h3) hd e ⟨v, H2, I2.tok _, rv, q⟩⟩
/-- the pairs of a list -/
inductive PairsV (K : PySem.W.Frag) (H : Hp) : List V → List (List Int × Addr × V) → Prop
  | nil : PairsV K H [] []
  | cons {p b : Addr} {is : List Int} {v : V} {vs : List V} {ps : List (List Int × Addr × V)} : SqT K H p [.ref b, v] → SqT K H b (is.map V.int) → PairsV K H vs ps → PairsV K H (.ref p :: vs) ((is, b, v) :: ps)
theorem PairsV.len {K : PySem.W.Frag} {H : Hp} : ∀ {vs : List V} {ps : List (List Int × Addr × V)}, PairsV K H vs ps → vs.length = ps.length
  | _, _, .nil => rfl
  | _, _, .cons _ _ t => congrArg (· + 1) t.len
theorem PairsV.mono {K : PySem.W.Frag} {H H' : Hp} (e : Same H H') : ∀ {vs : List V} {ps : List (List Int × Addr × V)}, PairsV K H vs ps → PairsV K H' vs ps
  | _, _, .nil => .nil
  | _, _, .cons a b t => .cons (sqt_mono e a) (sqt_mono e b) (t.mono e)
theorem PairsV.key {K : PySem.W.Frag} {H : Hp} : ∀ {vs : List V} {ps : List (List Int × Addr × V)}, PairsV K H vs ps → ∀ p ∈ ps, SqT K H p.2.1 (p.1.map V.int)
  | _, _, .nil, _, h => nomatch h
  | _, _, .cons a b t, p, h => by
    rcases List.mem_cons.mp h with rfl | h
    · exact b
    · exact t.key p h
theorem keys_at {K : PySem.W.Frag} {H : Hp} {vs : List V} {ps : List (List Int × Addr × V)} {ys : List (NestedKey × Addr × Value)} (h : PairsV K H vs ps) (e : ys.map (fun x => (x.1, x.2.1)) = ps.map (fun p => (NK p.1, p.2.1))) :
    ∀ y ∈ ys, ∃ is : List Int, y.1 = NK is ∧ SqT K H y.2.1 (is.map V.int) := fun y hy => by
  have m : (y.1, y.2.1) ∈ ps.map (fun p => (NK p.1, p.2.1)) := e ▸ List.mem_map.mpr ⟨y, hy, rfl⟩
  obtain ⟨p, hp, ep⟩ := List.mem_map.mp m
  simp only [Prod.mk.injEq] at ep
  exact ⟨p.1, ep.1.symm, by rw [← ep.2]; exact h.key p hp⟩
theorem keys_fst {ps : List (List Int × Addr × V)} {ys : List (NestedKey × Addr × Value)} (e : ys.map (fun x => (x.1, x.2.1)) = ps.map (fun p => (NK p.1, p.2.1))) : ys.map (·.1) = (ps.map (·.1)).map NK := by
  have z := congrArg (List.map Prod.fst) e
  simpa [Function.comp_def] using z
theorem storedAll_nd {K : Type} [DecidableEq K] : ∀ (ps xs : List (K × Addr × Value)), ((xs ++ ps).map (·.1)).Nodup → storedAllH xs ps = xs ++ ps
  | [], xs, _ => by simp [storedAllH]
  | p :: ps, xs, h => by
    have e : atKey xs p.1 = none := by
      unfold atKey
      rw [Option.map_eq_none_iff, List.find?_eq_none]
      intro x hx hc
      rw [List.map_append, List.nodup_append] at h
      exact h.2.2 x.1 (List.mem_map.mpr ⟨x, hx, rfl⟩) p.1 (by simp) (by simpa using hc)
    show storedAllH (storedH xs p.1 p.2.1 p.2.2) ps = _
    rw [storedH_new e, storedAll_nd ps (xs ++ [(p.1, p.2.1, p.2.2)]) (by simpa using h)]
    simp
theorem pairs_vals {pins : List (Addr × Obj)} {σ : L2.St} {H : Hp} {s : Shared} (I : Inv X pins σ H s) : ∀ {vs : List V} {ps : List (List Int × Addr × V)} {us : List Value}, PairsV X.K H vs ps → Vals vs us →
    ∃ prs : List (NestedKey × Addr × Value), prs.map (fun x => (x.1, x.2.1)) = ps.map (fun p => (NK p.1, p.2.1)) ∧ Vals (ps.map (·.2.2)) (prs.map (·.2.2)) ∧ prs.length = us.length ∧
      ∀ (j : Nat) x, prs[j]? = some x → ∃ p, us[j]? = some (.ref p) ∧ IsTup s.heap p #[.ref x.2.1, x.2.2]
  | _, _, _, .nil, r => by
    cases r
    exact ⟨[], rfl, .nil, rfl, fun j x e => by simp at e⟩
  | _, _, _, .cons (p := p) (b := b) (is := is) (v := v) h1 h2 h3, r => by
    cases r with
    | cons ra rb =>
      cases ra
      obtain ⟨prs, e1, e2, e4, e5⟩ := pairs_vals I h3 rb
      obtain ⟨its, rv, ht, _⟩ := I.tuple h1
      obtain ⟨u, y, ei, ru, ry⟩ := vals2 rv
      subst ei
      cases ru
      refine ⟨(NK is, b, y) :: prs, by simp [e1], .cons ry e2, by simp [e4], fun j x e => ?_⟩
      · cases j with
        | zero =>
          simp only [List.getElem?_cons_zero, Option.some.injEq] at e
          subst e
          exact ⟨p, by simp, ht⟩
        | succ j => simpa using e5 j x (by simpa using e)
def rDict (K : PySem.W.Frag) : List V → Hp → VK → Prop := fun xs H Q => ∃ (a : Addr) (vs : List V) (ps : List (List Int × Addr × V)), xs = [.ref a] ∧ SqL K H a vs ∧ PairsV K H vs ps ∧ (ps.map (·.1)).Nodup ∧
  ∀ (p : Addr) (es : List DictEntry) (ys : List (NestedKey × Addr × Value)), H p = none → (∀ P w, es = ys.map (entryOfKey (nestedKind P w))) → (ys.map (·.1)).Nodup → Vals (ps.map (·.2.2)) (ys.map (·.2.2)) → ys.map (fun x => (x.1, x.2.1)) = ps.map (fun p => (NK p.1, p.2.1)) → Q (.ref p) (upd H p (DicF p es))
theorem call_dict (hcalm : X.calm = true) (hu : X.A.units + 65 < cLine) : CallR X (.type "dict") (rDict X.K) := by
  intro pins s σ H xs us Q I r q
  obtain ⟨a, vs, ps, rfl, hq, hp, nd, q⟩ := q
  obtain ⟨u, rfl, rx⟩ := vals1 r
  cases rx
  obtain ⟨its, rv, pl, hz⟩ := I.list hq
  obtain ⟨prs, e1, e2, e4, e5⟩ := pairs_vals I hp rv
  have e3 := keys_at hp e1
  have hnd : (prs.map (·.1)).Nodup := by
    rw [keys_fst e1]
    exact List.Pairwise.map NK (fun a b hab e => hab (nk_inj.mp e)) nd
  refine call_dict_pairsH (knd := nestedKind X.prog X.w) (ps := prs) (PairArg.list a its.toArray (fun j => match its[j]? with | some (.ref p) => p | _ => 0) (prs.map fun x => (.ref x.2.1, x.2.2))) (I.ok.hd hcalm) ?_ ⟨pl, ?_, fun j k v hj => ?_⟩ ⟨by simp, fun i key v hr => ?_⟩ (fun h' hk x hx => ?_) ?_ fun h' tk hd' hk => ?_
  · show X.A.in1.in1.units + 8 < cLine
    have e : X.A.in1.in1.units ≤ X.A.units + 2 := by
      first | exact Nat.le_refl _ | (unfold Around.in1; simp; omega) | (simp [Around.in1]; omega)
    omega
  · simp [e4]
  · rw [List.getElem?_map] at hj
    obtain ⟨x, hx, ex⟩ := Option.map_eq_some_iff.mp hj
    cases ex
    obtain ⟨p, hp1, hp2⟩ := e5 j x hx
    obtain ⟨o, ho, hc, n, hd⟩ := hp2
    show its.toArray[j]? = some (.ref (match its[j]? with | some (.ref p) => p | _ => 0)) ∧ PairAt s.heap (match its[j]? with | some (.ref p) => p | _ => 0) _ _
    rw [hp1]
    exact ⟨by simpa using hp1, .inl ⟨o, ho, hc, n, hd⟩⟩
  · have hj : (prs.map fun x => (Value.ref x.2.1, x.2.2))[i]? = some (key, v) := hr
    rw [List.getElem?_map] at hj
    obtain ⟨x, hx, ex⟩ := Option.map_eq_some_iff.mp hj
    cases ex
    exact ⟨x.1, x.2.1, hx, rfl⟩
  · obtain ⟨is, z1, z2⟩ := e3 x hx
    rw [z1]
    exact nestedKind_stays.stays (fun b o _ _ eb _ => hk b o (Nat.ne_of_lt (Heap.lt_size eb)) (fun z => nomatch z) eb) (nk_is I z2)
  · simp only [List.length_map]
    rw [e4, ← rv.length]
    exact hz
  · rw [storedAll_nd prs [] (by simpa using hnd), List.nil_append] at hd'
    obtain ⟨o, es, ep, ho, hc, hdat, hes, _, _⟩ := hd'
    have hm : (s.heap.objs.size == sysModules) = false := beq_eq_false_iff_ne.mpr (Nat.ne_of_gt I.big)
    have hent : ∀ P w, es.toList = prs.map (entryOfKey (nestedKind P w)) := fun P w => by
      rw [hes]
      refine List.map_congr_left fun x hx => ?_
      obtain ⟨is, z1, _⟩ := e3 x hx
      unfold entryOfKey
      rw [show (nestedKind X.prog X.w).hash x.1 = (nestedKind P w).hash x.1 by rw [z1]; exact nk_hash _ _ _]
    refine ⟨.ref s.heap.objs.size, upd H s.heap.objs.size (DicF s.heap.objs.size es.toList), I.laid (t' := tk) (fun b o e => hk b o (fun z => nomatch z) e) (Nat.le_refl _) ?_, rfl, q _ es.toList prs (I.hok.fresh (Nat.le_refl _)) hent hnd e2 e1⟩
    refine ⟨⟨hm, o, ep, ho, hc, by simpa using hdat⟩, ⟨o, ho⟩, fun h1 h2 z k => ?_⟩
    obtain ⟨y1, o', ep', y2, y3⟩ := z
    exact ⟨y1, o', ep', k _ y2, y3⟩
end
/-! meanings -/
def pairsD : List D → Option (List (List Int × D))
  | [] => some []
  | .tuple [.tuple ks, v] :: r => match intsD ks, pairsD r with
    | some is, some q => some ((is, v) :: q)
    | _, _ => none
  | _ :: _ => none
def sDict (i : Nat) (r : RE) : RS := fun ρ => toS (r ρ) fun d => match d with
  | .list ds => match pairsD ds with
    | some kvs => if (kvs.map (·.1)).Nodup ∧ noOwn ρ i = true then some (.nx (ρ.set i (.dic kvs))) else none
    | none => none
  | _ => none
theorem pairsV_of {K : PySem.W.Frag} {H : Hp} : ∀ {vs : List V} {ds : List D} {kvs : List (List Int × D)}, FitAll K H vs ds → pairsD ds = some kvs → ∃ ps : List (List Int × Addr × V), PairsV K H vs ps ∧ ps.map (·.1) = kvs.map (·.1) ∧ FitAll K H (ps.map (·.2.2)) (kvs.map (·.2))
  | _, [], kvs, .nil, e => by cases e; exact ⟨[], .nil, rfl, .nil⟩
  | _, d :: ds, kvs, .cons h t, e => by
    unfold pairsD at e
    split at e
    · rename_i e0; cases e0
    · rename_i ks v r e0
      cases e0
      split at e
      · rename_i is q h1 h2
        cases e
        obtain ⟨ps, q1, q2, q3⟩ := pairsV_of t h2
        obtain ⟨p, us, rfl, s1, t1⟩ := dp_tup h
        obtain ⟨a, b, rfl, fa, fb⟩ := dps2 t1
        obtain ⟨p2, us2, rfl, s2, t2⟩ := dp_tup fa
        have e2 := ints_fit t2 h1
        subst e2
        exact ⟨(is, p2, b) :: ps, .cons s1 s2 q1, by simp [q2], .cons fb q3⟩
      · cases e
    · cases e
theorem Holds.setDic {K : PySem.W.Frag} {F : Fx} {H0 Z : Hp} {O : List (Option Addr)} {σ : L2.St} {H : Hp} {ρ : En} (h : Holds K F H0 Z O σ H ρ) {v : V} {kvs : List (List Int × D)} (i : Nat) (hv : DicFit K (hp F O true H) v kvs) : Holds K F H0 Z (O.set i none) (σ.set i (some v)) H (ρ.set i (.dic kvs)) where
  len := by simp [h.len]
  olen := by simp [h.olen]
  val := fun j e q => by
    rcases get_set q with ⟨rfl, z⟩ | ⟨n, z⟩
    · cases z
    · obtain ⟨w, x, y⟩ := h.val j e z
      exact ⟨w, by rw [List.getElem?_set_ne n]; exact x, dp_mono (hp_less fun a => mem_set_none) y⟩
  own := fun j e q => by
    rcases get_set q with ⟨rfl, z⟩ | ⟨n, z⟩
    · cases z
    · obtain ⟨a, vs, x, y, w, u⟩ := h.own j e z
      exact ⟨a, vs, by rw [List.getElem?_set_ne n]; exact x, by rw [List.getElem?_set_ne n]; exact y, w, dps_mono (hp_less fun a => mem_set_none) u⟩
  raw := fun j e q => by
    rcases get_set q with ⟨rfl, z⟩ | ⟨n, z⟩
    · cases z
    · rw [List.getElem?_set_ne n]; exact h.raw j e z
  dic := fun j e q => by
    rcases get_set q with ⟨rfl, z⟩ | ⟨n, z⟩
    · cases z
      have hl := lt_of_set q
      exact ⟨v, List.getElem?_set_self (by rw [h.len]; exact hl), dic_mono (hp_less fun a => mem_set_none) hv⟩
    · obtain ⟨w, x, y⟩ := h.dic j e z
      exact ⟨w, by rw [List.getElem?_set_ne n]; exact x, dic_mono (hp_less fun a => mem_set_none) y⟩
  inj := fun j k a x y => by
    rcases get_set x with ⟨_, z⟩ | ⟨_, z⟩
    · cases z
    · rcases get_set y with ⟨_, w⟩ | ⟨_, w⟩
      · cases w
      · exact h.inj j k a z w
  new := fun a q => h.new a (mem_set_none q)
  bex := h.bex
  ext := h.ext
  frz := h.frz.trans (hp_less fun a => mem_set_none)
  ok := h.ok
  oin := fun j a q => by
    rcases get_set q with ⟨_, z⟩ | ⟨n, z⟩
    · cases z
    · obtain ⟨ds, w⟩ := h.oin j a z
      exact ⟨ds, by rw [List.getElem?_set_ne n]; exact w⟩
section
variable {F : Fx} {E : XK} {X : Cx} {fr : Bool} {pos : Pos}
theorem ds_dict (i : Nat) {x : Str} {e : Expr} {t : TE} {r : RE} {p1 p2 pos' : Pos} (hN : X.N.Nodup) (hcalm : X.calm = true) (hu : X.A.units + 65 < cLine) (hm : X.mg "dict" = none) (h : DE F E X true e t r) (hi : X.N[i]? = some x := by rfl) (hx : Loc X.env.scope x := by first | exact Or.inl rfl | exact Or.inr rfl)
    (hg : Gl X "dict" := by rfl) (he : starEach [e] X.env = (false, eval e X.env) :: starEach [] X.env := by rfl) (hpl : (backTo p2 (starEach [] X.env)).any (·.1) = false := by rfl)
    (hs : swapsWith (.Call (.Name "dict" p1) [e] [] p2) (some (.Name x pos')) pos.line X.env = pure false := by rfl)
    (hf : X.fn x = true ∨ X.env.scope.names.lookup x = some .local := by first | exact .inl rfl | exact .inr rfl | assumption) :
    DS F E X (.Assign [.Name x pos'] (.Call (.Name "dict" p1) [e] [] p2) pos) (tAsg (tCB (rDict X.K) (tCons t tNil)) (gName i)) (sDict i r) :=
  ⟨ps_set hN hi hx (pe_callTy (call_dict hcalm hu) hg hm (by decide +kernel) (pa_cons h.run pa_nil he) (by decide) (by decide) he hpl) hs hf, ⟨fun {H0 Z O σ H ρ o D} hh e a => h.snd.st hh e a fun d v H1 e1 x1 hh1 d1 => by
    split at e1
    · rename_i ds
      split at e1
      · rename_i kvs hk
        split at e1
        · rename_i c
          cases e1
          obtain ⟨p, vs, rfl, s1, t1⟩ := dp_lst d1
          obtain ⟨ps, q1, q2, q3⟩ := pairsV_of t1 hk
          have hle : Same (hp F O true H1) H1 := hp_le
          refine ⟨p, vs, ps, rfl, .inl (rd_mono hp_le s1), ?_, by rw [q2]; exact c.1, fun p' es ys n k1 k3 k4 k2 => ?_⟩
          · exact q1.mono hp_le
          · have n1 := hh1.fresh (fr := true) n
            have up : Same (hp F O true H1) (hp F O true (upd H1 p' (DicF p' es))) := hp_ext (ext_new n _)
            refine a _ _ _ ((hh1.go (ext_new n _)).setDic i ⟨p', es, ys, _, rfl, hp_some.mpr ⟨n1, upd_same⟩, ⟨k1, keys_at (q1.mono up) k2, k3, k4⟩, ?_, dps_mono up q3⟩)
            rw [keys_fst k2, q2]
            simp
        · cases e1
      · cases e1
    · cases e1⟩⟩
/-- what stands at a key -/
theorem dic_at {K : PySem.W.Frag} {H : Hp} (is : List Int) : ∀ {xs : List (NestedKey × Addr × Value)} {vs : List V} {kvs : List (List Int × D)}, xs.map (·.1) = kvs.map (fun p => NK p.1) → Vals vs (xs.map (·.2.2)) → FitAll K H vs (kvs.map (·.2)) →
    (kvs.lookup is = none ∧ atKey xs (NK is) = none) ∨ ∃ d b u v, kvs.lookup is = some d ∧ atKey xs (NK is) = some (b, u) ∧ RelV v u ∧ Fit K H v d
  | [], vs, kvs, e, r, f => by
    have : kvs = [] := by simpa using e.symm
    subst this
    exact .inl ⟨rfl, rfl⟩
  | x :: xs, vs, [], e, r, f => by simp at e
  | x :: xs, vs, kv :: kvs, e, r, f => by
    simp only [List.map_cons, List.cons.injEq] at e
    rw [List.map_cons] at r f
    cases r with
    | cons ra rb =>
      cases f with
      | cons fa fb =>
        by_cases c : kv.1 = is
        · have c2 : x.1 = NK is := by rw [e.1, c]
          refine .inr ⟨kv.2, x.2.1, x.2.2, _, ?_, ?_, ra, fa⟩
          · rw [show kv = (kv.1, kv.2) from rfl, List.lookup_cons, c]; simp
          · unfold atKey; rw [List.find?_cons, decide_eq_true c2]; rfl
        · have c2 : x.1 ≠ NK is := by rw [e.1]; exact fun z => c (nk_inj.mp z)
          have c3 : (is == kv.1) = false := beq_eq_false_iff_ne.mpr fun z => c z.symm
          have q := dic_at is e.2 rb fb
          rw [show kv = (kv.1, kv.2) from rfl, List.lookup_cons, c3]
          unfold atKey at q ⊢
          rw [List.find?_cons, decide_eq_false c2]
          exact q
def keyR (d : D) (k : List Int → R D) : R D := match d with
  | .tuple ks => match intsD ks with
    | some is => k is
    | none => none
  | _ => none
def dicR (sv : Option SV) (k : List (List Int × D) → R D) : R D := match sv with
  | some (.dic kvs) => k kvs
  | _ => none
def rInDi (j : Nat) (ra : RE) : RE := fun ρ => bnd (ra ρ) fun d => keyR d fun is => dicR ρ[j]? fun kvs => some (.ok (.bool (kvs.lookup is).isSome))
def rIxDi (j : Nat) (ra : RE) : RE := fun ρ => dicR ρ[j]? fun kvs => bnd (ra ρ) fun d => keyR d fun is => okO (kvs.lookup is)
theorem keyR_some {d : D} {k : List Int → R D} {o : Except Cn D} (h : keyR d k = some o) : ∃ ks is, d = .tuple ks ∧ intsD ks = some is ∧ k is = some o := by
  cases d with
  | tuple ks =>
    cases e : intsD ks with
    | none => simp [keyR, e] at h
    | some is => exact ⟨ks, is, rfl, e, by simpa [keyR, e] using h⟩
  | _ => cases h
theorem dicR_some {sv : Option SV} {k : List (List Int × D) → R D} {o : Except Cn D} (h : dicR sv k = some o) : ∃ kvs, sv = some (.dic kvs) ∧ k kvs = some o := by
  unfold dicR at h
  split at h
  · rename_i kvs; exact ⟨kvs, rfl, h⟩
  · cases h
theorem se_inDi {j : Nat} {t : TE} {r : RE} (h : SE X.K F E fr t r) : SE X.K F E fr (tOp (rInDic X.K) t (tVar j)) (rInDi j r) := ⟨fun {H0 Z O σ H ρ o Q} hh e er k => h.bnd hh e er fun d v H1 e1 x1 hh1 d1 => by
  obtain ⟨ks, is, rfl, e2, e3⟩ := keyR_some e1
  obtain ⟨kvs, e4, e5⟩ := dicR_some e3
  cases e5
  obtain ⟨w, y1, a, es, xs, vs, rfl, y2, y3, y4, y5⟩ := hh1.dic j kvs e4
  obtain ⟨b, us, rfl, s1, t1⟩ := dp_tup d1
  have e6 := ints_fit t1 e2
  subst e6
  refine ⟨.ref a, y1, a, es, xs, vs, b, is, rfl, hp_le _ _ y2, ⟨y3.ent, fun x hx => ?_, y3.nd, y3.val⟩, rfl, sqt_mono hp_le s1, ?_⟩
  · obtain ⟨js, z1, z2⟩ := y3.key x hx
    exact ⟨js, z1, sqt_mono hp_le z2⟩
  · rcases dic_at is y4 y3.val y5 with ⟨z1, z2⟩ | ⟨d', b', u', v', z1, z2, _, _⟩
    · rw [z2]; rw [z1] at k; exact k _ _ H1 rfl x1 (.bl _)
    · rw [z2]; rw [z1] at k; exact k _ _ H1 rfl x1 (.bl _)⟩
theorem de_inDi (j : Nat) {a : Expr} {x : Str} {t : TE} {r : RE} {p1 : Pos} (hu : X.A.units + 65 < cLine) (h : DE F E X fr a t r) (hN : X.N[j]? = some x := by rfl) (hv : Vis X.env.scope x := by first | exact Or.inl rfl | exact Or.inr (Or.inl rfl) | exact Or.inr (Or.inr rfl)) (hd : (x == ("__debug__" : Str)) = false := by decide) (hcd : (x == ("__classdict__" : Str)) = false := by decide) (hm : behindInMarks .In (.Name x p1) = false := by rfl) :
    DE F E X fr (.Compare a [.In] [.Name x p1] pos) (tOp (rInDic X.K) t (tVar j)) (rInDi j r) := ⟨pe_cmpR (op_inDic hu) h.run (pe_var hN hv hd hcd) hm, se_inDi h.snd⟩
theorem dt_inDi (j : Nat) {a : Expr} {x : Str} {t : TE} {r : RE} {p1 : Pos} (hu : X.A.units + 65 < cLine) (h : DE F E X fr a t r) (hN : X.N[j]? = some x := by rfl) (hv : Vis X.env.scope x := by first | exact Or.inl rfl | exact Or.inr (Or.inl rfl) | exact Or.inr (Or.inr rfl)) (hd : (x == ("__debug__" : Str)) = false := by decide) (hcd : (x == ("__classdict__" : Str)) = false := by decide) (hm : behindInMarks .In (.Name x p1) = false := by rfl) :
    DT F E X (.Compare a [.In] [.Name x p1] pos) (tTest (tOp (rInDic X.K) t (tVar j))) (rTst (rInDi j r)) := ⟨pt_cmpR (op_inDic hu) h.run (pe_var hN hv hd hcd) hm, st_of (se_inDi h.snd)⟩
theorem de_ixDi (j : Nat) {a : Expr} {x : Str} {t : TE} {r : RE} {p1 : Pos} (hu : X.A.units + 65 < cLine) (h : DE F E X fr a t r) (hs : NoSl a := by exact fun _ _ => rfl) (hN : X.N[j]? = some x := by rfl) (hv : Vis X.env.scope x := by first | exact Or.inl rfl | exact Or.inr (Or.inl rfl) | exact Or.inr (Or.inr rfl)) (hd : (x == ("__debug__" : Str)) = false := by decide) (hcd : (x == ("__classdict__" : Str)) = false := by decide) :
    DE F E X fr (.Subscript (.Name x p1) a pos) (tOp (rIxDic X.K) (tVar j) t) (rIxDi j r) := ⟨ix_dic hu (pe_var hN hv hd hcd) h.run hs, ⟨fun {H0 Z O σ H ρ o Q} hh e er k => by
  obtain ⟨kvs, e4, e5⟩ := dicR_some e
  obtain ⟨w, y1, _⟩ := hh.dic j kvs e4
  refine ⟨w, y1, h.snd.bnd hh e5 er fun d v H1 e1 x1 hh1 d1 => ?_⟩
  obtain ⟨ks, is, rfl, e2, e3⟩ := keyR_some e1
  obtain ⟨dd, e7, rfl⟩ := okO_eq e3
  obtain ⟨w', y1', a, es, xs, vs, rfl, y2, y3, y4, y5⟩ := hh1.dic j kvs e4
  rw [y1] at y1'
  cases y1'
  obtain ⟨b, us, rfl, s1, t1⟩ := dp_tup d1
  have e6 := ints_fit t1 e2
  subst e6
  rcases dic_at is y4 y3.val y5 with ⟨z1, z2⟩ | ⟨d', b', u', v', z1, z2, z3, z4⟩
  · rw [z1] at e7; cases e7
  · rw [z1] at e7
    cases e7
    refine ⟨a, es, xs, vs, b, is, b', u', v', rfl, hp_le _ _ y2, ⟨y3.ent, fun x hx => ?_, y3.nd, y3.val⟩, rfl, sqt_mono hp_le s1, z2, z3, k _ _ H1 rfl x1 (dp_mono hp_low z4)⟩
    obtain ⟨js, z1, z2⟩ := y3.key x hx
    exact ⟨js, z1, sqt_mono hp_le z2⟩⟩⟩
end
end DL
set_option Elab.async false
set_option linter.all false
set_option maxRecDepth 100000
/-! Texts: methods with one argument, a dict of the module. -/
namespace DL
open PySem L2 PyProof.Rows
def strR (d : D) (k : Str → R D) : R D := match d with
  | .str z => k z
  | _ => none
@[simp] theorem strR_str (z : Str) (k : Str → R D) : strR (.str z) k = k z := rfl
def rM1 (g : Str → D → Option D) (ro re : RE) : RE := fun ρ => bnd (ro ρ) fun d => strR d fun z => bnd (re ρ) fun e => okO (g z e)
@[simp] theorem rM1_ap (g : Str → D → Option D) (ro re : RE) (ρ : En) : rM1 g ro re ρ = bnd (ro ρ) fun d => strR d fun z => bnd (re ρ) fun e => okO (g z e) := rfl
structure M1S (K : PySem.W.Frag) (r : V → List V → Hp → VK → Prop) (g : Str → D → Option D) : Prop where
  go : ∀ {F : Fx} {O : List (Option Addr)} {fr : Bool} {H : Hp} {z : Str} {y : V} {d o : D} {Q : VK}, (∀ p, H p = none → ¬ (F.bad p ∨ (fr = true ∧ some p ∈ O))) → Fit K (hp F O fr H) y d → g z d = some o →
    (∀ v H', Ext F H H' → Fit K (hp F O fr H') v o → Q v H') → r (.str z) [y] H Q
theorem strR_some {d : D} {k : Str → R D} {o : Except Cn D} (h : strR d k = some o) : ∃ z, d = .str z ∧ k z = some o := by
  cases d with
  | str z => exact ⟨z, rfl, h⟩
  | _ => cases h
section
variable {F : Fx} {E : XK} {X : Cx} {fr : Bool}
theorem se_m1 {K : PySem.W.Frag} {r : V → List V → Hp → VK → Prop} {g : Str → D → Option D} {to te : TE} {ro re : RE} (hs : M1S K r g) (ho : SE K F E fr to ro) (he : SE K F E fr te re) : SE K F E fr (tM1 r to te) (rM1 g ro re) :=
  ⟨fun {H0 Z O σ H ρ o Q} hh e er k => ho.bnd hh e er fun d v H1 e1 x1 hh1 d1 => by
    obtain ⟨z, rfl, e2⟩ := strR_some e1
    obtain rfl := dp_str d1
    refine ⟨⟨z, rfl⟩, he.bnd hh1 e2 (er.go x1) fun d2 y H2 e3 x2 hh2 d3 => ?_⟩
    obtain ⟨d', e4, rfl⟩ := okO_eq e3
    exact hs.go (fun p n => hh2.fresh n) d3 e4 fun u H3 x3 d4 => k _ u H3 rfl ((x1.trans x2).trans x3) d4⟩
theorem de_m1 {o e : Expr} {name : Str} {id : String} {apos pos : Pos} {r : V → List V → Hp → VK → Prop} {g : Str → D → Option D} {to te : TE} {ro re : RE} (hs : M1S X.K r g) (slot : Slot "str" name id) (ty : typeOf (.builtin id) = pure (.type "method_descriptor")) (rule : MtR X id r)
    (ho : DE F E X fr o to ro) (he : DE F E X fr e te re) (hst : starEach [e] X.env = [(false, eval e X.env)] := by rfl) (hbase : attributeBase o name X.env (eval o X.env) = eval o X.env := by rfl) (hline : (apos.endLine == pos.line) = true := by rfl) :
    DE F E X fr (.Call (.Attribute o name apos) [e] [] pos) (tM1 r to te) (rM1 g ro re) := ⟨pe_m1 slot ty rule ho.run he.run hst hbase hline, se_m1 hs ho.snd he.snd⟩
end
theorem FitAll.strs {K : PySem.W.Frag} {H : Hp} : ∀ (ys : List Str), FitAll K H (ys.map V.str) (ys.map PyData.str)
  | [] => .nil
  | y :: ys => .cons (.str y) (FitAll.strs ys)
def strsD : List D → Option (List Str)
  | [] => some []
  | .str z :: ds => (strsD ds).map (z :: ·)
  | _ :: _ => none
theorem strs_fit {K : PySem.W.Frag} {H : Hp} : ∀ {vs : List V} {ds : List D} {ys : List Str}, FitAll K H vs ds → strsD ds = some ys → vs = ys.map V.str
  | _, [], _, .nil, e => by cases e; rfl
  | _, d :: ds, ys, .cons h t, e => by
    cases d with
    | str z =>
      obtain ⟨cs, e1, rfl⟩ := Option.map_eq_some_iff.mp (show (strsD ds).map (z :: ·) = some ys from e)
      rw [dp_str h, strs_fit t e1]
      rfl
    | _ => cases e
@[simp] theorem strs_map : ∀ ys : List Str, strsD (ys.map PyData.str) = some ys
  | [] => rfl
  | y :: ys => by rw [List.map_cons, strsD, strs_map ys]; rfl
def splitD (z : Str) (d : D) : Option D := match d with
  | .str b => if (b.length == 0) = false ∧ z.length ≤ 1000000 then some (.list ((Txt.split z b).map PyData.str)) else none
  | _ => none
theorem m1_split {K : PySem.W.Frag} : M1S K (fun x xs H Q => ∃ a b, x = .str a ∧ xs = [.str b] ∧ (b.length == 0) = false ∧ a.length + 2 ≤ sizeLine ∧ rNewStrs (Txt.split a b) H Q) splitD := ⟨fun {F O fr H z y d o Q} nb h e k => by
  unfold splitD at e
  split at e
  · split at e
    · rename_i c
      cases e
      refine ⟨z, _, rfl, by rw [dp_str h], c.1, Nat.le_trans (Nat.add_le_add_right c.2 2) (by decide), fun p n => ?_⟩
      exact k _ _ (ext_new n _) (.lst (.inl (hp_some.mpr ⟨nb p n, upd_same⟩)) (FitAll.strs _))
    · cases e
  · cases e⟩
def joinD (z : Str) (d : D) : Option D := match d with
  | .list ds => match strsD ds with
    | some ys => if (ys.map (·.length)).sum + ys.length * z.length ≤ 16777216 then some (.str (Txt.join z ys)) else none
    | none => none
  | _ => none
theorem m1_join {K : PySem.W.Frag} : M1S K (fun x xs H Q => ∃ a p, ∃ ys : List Str, x = .str a ∧ xs = [.ref p] ∧ (SqL K H p (ys.map V.str) ∨ SqT K H p (ys.map V.str)) ∧ (ys.map (·.length)).sum + ys.length * a.length ≤ 16777216 ∧ Q (.str (Txt.join a ys)) H) joinD := ⟨fun {F O fr H z y d o Q} nb h e k => by
  unfold joinD at e
  split at e
  · split at e
    · rename_i ys hy
      split at e
      · rename_i c
        cases e
        obtain ⟨p, vs, rfl, s1, t1⟩ := dp_lst h
        obtain rfl := strs_fit t1 hy
        exact ⟨z, p, ys, rfl, rfl, .inl (.inl (rd_mono hp_le s1)), c, k _ H (Ext.refl _ _) (.str _)⟩
      · cases e
    · cases e
  · cases e⟩
def stripD (z : Str) (d : D) : Option D := match d with
  | .str b => if z.length ≤ 1000000 then some (.str (Txt.stripChars z b)) else none
  | _ => none
theorem m1_strip {K : PySem.W.Frag} : M1S K (fun x xs H Q => ∃ a b, x = .str a ∧ xs = [.str b] ∧ a.length ≤ sizeLine ∧ Q (.str (Txt.stripChars a b)) H) stripD := ⟨fun {F O fr H z y d o Q} nb h e k => by
  unfold stripD at e
  split at e
  · split at e
    · rename_i c
      cases e
      exact ⟨z, _, rfl, by rw [dp_str h], szMe c, k _ H (Ext.refl _ _) (.str _)⟩
    · cases e
  · cases e⟩
def lstripD (z : Str) (d : D) : Option D := match d with
  | .str b => if z.length ≤ 1000000 then some (.str (Txt.lstripChars z b)) else none
  | _ => none
theorem m1_lstrip {K : PySem.W.Frag} : M1S K (fun x xs H Q => ∃ a b, x = .str a ∧ xs = [.str b] ∧ a.length ≤ sizeLine ∧ Q (.str (Txt.lstripChars a b)) H) lstripD := ⟨fun {F O fr H z y d o Q} nb h e k => by
  unfold lstripD at e
  split at e
  · split at e
    · rename_i c
      cases e
      exact ⟨z, _, rfl, by rw [dp_str h], szMe c, k _ H (Ext.refl _ _) (.str _)⟩
    · cases e
  · cases e⟩
/-! a dict of the module with texts -/
def GlobKD (K : PySem.W.Frag) (w : World) (mg : Str → Option Value) (x : Str) (tb : List (Str × Option Str)) : Prop := ∃ a es n, mg x = some (.ref a) ∧ K.lookup a = some ⟨.type "dict", none, .dict es n, #[]⟩ ∧ PySem.W.KeysLit w.params es.toList ∧ (a == sysModules) = false ∧
  (∀ z s, tb.lookup z = some (some s) → ∃ t, PySem.W.nsIn K a z = some (some (.str s t))) ∧ ∀ z, tb.lookup z = some none → PySem.W.nsIn K a z = some none
def rKix (tb : List (Str × Option Str)) (re : RE) : RE := fun ρ => bnd (re ρ) fun d => strR d fun z => match tb.lookup z with
  | some (some s) => some (.ok (.str s))
  | _ => none
def rKget (tb : List (Str × Option Str)) (re rf : RE) : RE := fun ρ => bnd (re ρ) fun d => bnd (rf ρ) fun f => strR d fun z => match tb.lookup z with
  | some (some s) => some (.ok (.str s))
  | some none => some (.ok f)
  | none => none
def tKix (K : PySem.W.Frag) (w : World) (mg : Str → Option Value) (x : Str) (te : TE) : TE := fun σ H Q => ∃ a, mg x = some (.ref a) ∧ te σ H fun y H1 => ∃ z u, y = .str z ∧ KDct K w a z u ∧ Q u H1
def tKget (K : PySem.W.Frag) (w : World) (mg : Str → Option Value) (x : Str) (te tf : TE) : TE := fun σ H Q => ∃ a es n, mg x = some (.ref a) ∧ K.lookup a = some ⟨.type "dict", none, .dict es n, #[]⟩ ∧ PySem.W.KeysLit w.params es.toList ∧ (a == sysModules) = false ∧
  te σ H fun y H1 => tf σ H1 fun v H2 => ∃ z, y = .str z ∧ ((∃ u0 u, PySem.W.nsIn K a z = some (some u0) ∧ RelV u u0 ∧ Q u H2) ∨ (PySem.W.nsIn K a z = some none ∧ Q v H2))
section
variable {F : Fx} {E : XK} {X : Cx} {fr : Bool}
theorem pe_kix {e : Expr} {x : Str} {te : TE} {p1 pos : Pos} (he : PE X e te) (hs : PlainIx e) (hg : Gl X x) (hd : (x == ("__debug__" : Str)) = false) : PE X (.Subscript (.Name x p1) e pos) (tKix X.K X.w X.mg x te) := ⟨fun pins s σ H Q I h => by
  obtain ⟨a, hm, h⟩ := h
  refine (pe_ix (X := X) (a := .Name x p1) (b := e) (pos := pos) (ta := tC (.ref a)) (tb := te) ix_kdict (pe_glob (v := .ref a) hg hm rfl hd) he hs).run pins s σ H Q I ?_
  show te σ H fun y H1 => rIxD X.K X.w (.ref a) y H1 Q
  have e : (fun y H1 => ∃ z u, y = V.str z ∧ KDct X.K X.w a z u ∧ Q u H1) = fun y H1 => rIxD X.K X.w (.ref a) y H1 Q := by
    funext y H1
    unfold rIxD
    refine propext ⟨fun ⟨z, u, h1, h2, h3⟩ => ⟨a, z, u, rfl, h1, h2, h3⟩, fun ⟨p, z, u, h0, h1, h2, h3⟩ => ?_⟩
    cases h0
    exact ⟨z, u, h1, h2, h3⟩
  rw [← e]
  exact h⟩
theorem pe_kget {e f : Expr} {x : Str} {te tf : TE} {p1 apos pos : Pos} (he : PE X e te) (hf : PE X f tf) (m : M2 X (.Name x p1) "get" apos e f pos) (hg : Gl X x) (hd : (x == ("__debug__" : Str)) = false) : PE X (.Call (.Attribute (.Name x p1) "get" apos) [e, f] [] pos) (tKget X.K X.w X.mg x te tf) := ⟨fun pins s σ H Q I h => by
  obtain ⟨a, es, n, hm, hl, hk, low, h⟩ := h
  refine wpAny_Call_method m.base m.few m.line PySem.F.plainAttrs_dict PySem.F.slot_dict_get PySem.F.type_dict_get (thn ((pe_glob (v := .ref a) hg hm rfl hd).run pins s σ H (fun v H' => v = .ref a ∧ H' = H) I ⟨rfl, rfl⟩) fun u s1 ⟨y, H1, I1, rx, q1, q2⟩ => ?_)
  subst q1 q2
  obtain rfl : u = Value.ref a := rx
  have hm' := PySem.W.mapOf_K (prog := X.prog) (w := X.w) I1.kIn hl hk
  refine ⟨hm'.typeIs, fun b q => ?_, ?_⟩
  · cases q
    exact ⟨_, I1.kIn _ _ hl, rfl⟩
  · rw [m.trees]
    refine Calls.callWith_builtin rfl (Calls.evalArgs_plain (Calls.spliced_cons (thn (he.run pins s1 σ H1 _ I1 h) fun iv s2 ⟨y, H2, I2, ry, q2⟩ =>
      Calls.spliced_cons (thn (hf.run pins s2 σ H2 _ I2 q2) fun fv s3 ⟨v, H3, I3, rv, q3⟩ => Calls.spliced_nil ?_))))
    obtain ⟨z, rfl, q3⟩ := q3
    obtain ⟨t, rfl⟩ := ry
    have hm3 := PySem.W.mapOf_K (prog := X.prog) (w := X.w) I3.kIn hl hk
    refine call_meetsIn PySem.F.slot_dict_get hm3.typeIs PySem.F.entry_dict_get (PySem.F.args_dict_get_3 _ _ _) (meets_dict_get_default (strKind X.prog X.w) a (strKind_is X.prog X.w z t) low fv) ⟨_, hm3, ?_⟩
    rcases q3 with ⟨u0, u, e1, ru, q⟩ | ⟨e1, q⟩
    · rw [PySem.W.find_K hl e1]
      exact ⟨u, H3, I3.tok _, ru, q⟩
    · rw [PySem.W.find_K hl e1]
      exact ⟨v, H3, I3.tok _, rv, q⟩⟩
theorem de_kix {e : Expr} {x : Str} {tb : List (Str × Option Str)} {te : TE} {re : RE} {p1 pos : Pos} (g : GlobKD X.K X.w X.mg x tb) (he : DE F E X fr e te re) (hs : PlainIx e := by exact fun _ _ => rfl) (hg : Gl X x := by rfl) (hd : (x == ("__debug__" : Str)) = false := by decide) :
    DE F E X fr (.Subscript (.Name x p1) e pos) (tKix X.K X.w X.mg x te) (rKix tb re) := ⟨pe_kix he.run hs hg hd, ⟨fun {H0 Z O σ H ρ o Q} hh e er k => by
  obtain ⟨a, es, n, g1, g2, g3, g4, g5, g6⟩ := g
  refine ⟨a, g1, he.snd.bnd hh e er fun d v H1 e1 x1 hh1 d1 => ?_⟩
  obtain ⟨z, rfl, e2⟩ := strR_some e1
  split at e2
  · rename_i s q
    cases e2
    obtain ⟨t, q2⟩ := g5 z s q
    exact ⟨z, .str s, dp_str d1, ⟨es, n, _, g2, g3, q2, ⟨t, rfl⟩⟩, k _ _ H1 rfl x1 (.str s)⟩
  · cases e2⟩⟩
theorem de_kget {e f : Expr} {x : Str} {tb : List (Str × Option Str)} {te tf : TE} {re rf : RE} {p1 apos pos : Pos} (g : GlobKD X.K X.w X.mg x tb) (he : DE F E X fr e te re) (hf : DE F E X fr f tf rf)
    (mb : attributeBase (.Name x p1) "get" X.env (eval (.Name x p1) X.env) = eval (.Name x p1) X.env := by rfl)
    (mf : ((backTo pos (starEach [e, f] X.env)).all (fun x => !x.1) && (backToKw pos (keywordEach [] X.env)).all (fun x => x.1.isSome)
      && decide (([e, f] : List Expr).length + ([] : List Keyword).length + (if ([] : List Keyword).isEmpty then 0 else 1) < 30)) = true := by rfl)
    (ml : (apos.endLine == pos.line) = true := by rfl) (mt : backTo pos (starEach [e, f] X.env) = [(false, eval e X.env), (false, eval f X.env)] := by rfl)
    (hg : Gl X x := by rfl) (hd : (x == ("__debug__" : Str)) = false := by decide) :
    DE F E X fr (.Call (.Attribute (.Name x p1) "get" apos) [e, f] [] pos) (tKget X.K X.w X.mg x te tf) (rKget tb re rf) := ⟨pe_kget he.run hf.run ⟨mb, mf, ml, mt⟩ hg hd, ⟨fun {H0 Z O σ H ρ o Q} hh e er k => by
  obtain ⟨a, es, n, g1, g2, g3, g4, g5, g6⟩ := g
  refine ⟨a, es, n, g1, g2, g3, g4, he.snd.bnd hh e er fun d v H1 e1 x1 hh1 d1 => hf.snd.bnd hh1 e1 (er.go x1) fun df vf H2 e2 x2 hh2 d2 => ?_⟩
  obtain ⟨z, rfl, e3⟩ := strR_some e2
  refine ⟨z, dp_str d1, ?_⟩
  split at e3
  · rename_i s q
    cases e3
    obtain ⟨t, q2⟩ := g5 z s q
    exact .inl ⟨_, .str s, q2, ⟨t, rfl⟩, k _ _ H2 rfl (x1.trans x2) (.str s)⟩
  · rename_i q
    cases e3
    exact .inr ⟨g6 z q, k _ _ H2 rfl (x1.trans x2) d2⟩
  · cases e3⟩⟩
end
def KdAll (K : PySem.W.Frag) (a : Addr) : List (Str × Option Str) → Prop
  | [] => True
  | (z, some s) :: r => (∃ t, PySem.W.nsIn K a z = some (some (.str s t))) ∧ KdAll K a r
  | (z, none) :: r => PySem.W.nsIn K a z = some none ∧ KdAll K a r
theorem kd_hit {K : PySem.W.Frag} {a : Addr} : ∀ {tb : List (Str × Option Str)}, KdAll K a tb → (∀ z s, tb.lookup z = some (some s) → ∃ t, PySem.W.nsIn K a z = some (some (.str s t))) ∧ ∀ z, tb.lookup z = some none → PySem.W.nsIn K a z = some none
  | [], _ => ⟨fun z s h => (nomatch h), fun z h => (nomatch h)⟩
  | (y, some s') :: r, h => by
    obtain ⟨h1, h2⟩ := h
    obtain ⟨i1, i2⟩ := kd_hit h2
    refine ⟨fun z s e => ?_, fun z e => ?_⟩
    · rw [List.lookup_cons] at e
      split at e
      · rename_i c
        cases e
        rw [eq_of_beq c]
        exact h1
      · exact i1 z s e
    · rw [List.lookup_cons] at e
      split at e
      · cases e
      · exact i2 z e
  | (y, none) :: r, h => by
    obtain ⟨h1, h2⟩ := h
    obtain ⟨i1, i2⟩ := kd_hit h2
    refine ⟨fun z s e => ?_, fun z e => ?_⟩
    · rw [List.lookup_cons] at e
      split at e
      · cases e
      · exact i1 z s e
    · rw [List.lookup_cons] at e
      split at e
      · rename_i c
        rw [eq_of_beq c]
        exact h1
      · exact i2 z e
theorem globKD {K : PySem.W.Frag} {w : World} {mg : Str → Option Value} {x : Str} {a : Addr} {es : Array DictEntry} {n : Nat} {tb : List (Str × Option Str)} (h1 : mg x = some (.ref a)) (h2 : K.lookup a = some ⟨.type "dict", none, .dict es n, #[]⟩) (h3 : PySem.W.KeysLit w.params es.toList) (h4 : (a == sysModules) = false) (h5 : KdAll K a tb) : GlobKD K w mg x tb :=
  ⟨a, es, n, h1, h2, h3, h4, (kd_hit h5).1, (kd_hit h5).2⟩
end DL
set_option Elab.async false
set_option linter.all false
set_option maxRecDepth 100000
/-! zip of any two sequences. -/
namespace DL
open PySem L2 PyProof.Rows
/-- a sequence: a list (true) or a tuple (false) -/
def SqB (K : PySem.W.Frag) : Bool → Hp → Addr → List V → Prop
  | true, H, a, xs => SqL K H a xs
  | false, H, a, xs => SqT K H a xs
def IterB : Bool → Heap → Addr → Addr → Nat → Prop
  | true, h, it, a, i => h.IsListIter it a i
  | false, h, it, a, i => h.IsTupleIter it a i
def SeqB : Bool → Heap → Addr → Array Value → Prop
  | true, h, a, xs => h.IsList a xs
  | false, h, a, xs => h.IsTuple a xs
theorem drawsB {prog : Program} {w : World} {A : Around} (l : Bool) (hh : A.handled = none) (it a : Addr) (hne : a ≠ it) (items : Array Value) :
    Draws prog w A it [it, a] items.size (fun i v => items[i]? = some v) (fun i h => IterB l h it a i ∧ SeqB l h a items) := by
  cases l with
  | true => exact Draws.list hh it a hne items
  | false => exact Draws.tuple hh it a hne items
theorem IterB.at {l : Bool} {h h' : Heap} {it a : Addr} {i : Nat} (x : IterB l h it a i) (k : ∀ o, h.get? it = some o → h'.get? it = some o) : IterB l h' it a i := by
  cases l with
  | true => exact Heap.IsListIter.at (show h.IsListIter it a i from x) k
  | false => exact Heap.IsTupleIter.at (show h.IsTupleIter it a i from x) k
theorem IterB.obj {l : Bool} {h : Heap} {it a : Addr} {i : Nat} (x : IterB l h it a i) : ∃ o, h.get? it = some o ∧ ∃ fs, o.data = .fields fs := by
  cases l with
  | true => obtain ⟨o, e, _, d⟩ := x; exact ⟨o, e, _, d⟩
  | false => obtain ⟨o, e, _, d⟩ := x; exact ⟨o, e, _, d⟩
theorem seqB_of {X : Cx} {pins : List (Addr × Obj)} {σ : L2.St} {H : Hp} {s : Shared} {l : Bool} {a : Addr} {xs : List V} (I : Inv X pins σ H s) (h : SqB X.K l H a xs) : ∃ its : List Value, Vals xs its ∧ SeqB l s.heap a its.toArray := by
  cases l with
  | true => obtain ⟨its, r, p, _⟩ := I.list h; exact ⟨its, r, p.isList⟩
  | false => obtain ⟨its, r, p, _⟩ := I.tuple h; exact ⟨its, r, p⟩
theorem seqB_inj {X : Cx} {pins : List (Addr × Obj)} {σ : L2.St} {H : Hp} {s : Shared} {l : Bool} {a : Addr} {xs ys : List V} (I : Inv X pins σ H s) (h : SqB X.K l H a xs) (h' : SqB X.K l H a ys) : xs = ys := by
  cases l with
  | true => exact I.list_inj h h'
  | false => exact I.tuple_inj h h'
theorem SeqB.lt {l : Bool} {h : Heap} {a : Addr} {xs : Array Value} (x : SeqB l h a xs) : a < h.objs.size := by
  cases l with
  | true => obtain ⟨o, e, _⟩ := x; exact Heap.lt_size e
  | false => obtain ⟨o, e, _⟩ := x; exact Heap.lt_size e
def ItzB (K : PySem.W.Frag) (l1 l2 : Bool) (a b : Addr) : It :=
  ⟨fun i H => ∃ (xs ys : List V) (x y : V), SqB K l1 H a xs ∧ SqB K l2 H b ys ∧ xs[i]? = some x ∧ ys[i]? = some y,
    fun i H v H' => ∃ T x y, v = .ref T ∧ H T = none ∧ H' = upd H T (.tup [x, y]) ∧ (∀ xs, SqB K l1 H a xs → xs[i]? = some x) ∧ ∀ ys, SqB K l2 H b ys → ys[i]? = some y,
    fun i H => ∃ xs ys : List V, SqB K l1 H a xs ∧ SqB K l2 H b ys ∧ i ≤ xs.length ∧ i ≤ ys.length ∧ (xs.length = i ∨ ys.length = i)⟩
theorem turn_zipB {P : Program} {w : World} {K : PySem.W.Frag} {elts : List Expr} {kk : Nat} {tpos : Pos} {l1 l2 : Bool} {a b z TI TO i1 i2 : Addr} (S : ZipSep2 z TI TO i1 i2 [i1, a] [i2, b]) :
    Turn P w K (.Tuple elts kk tpos) (ItzB K l1 l2 a b) [z, TI, TO, i1, i2] z (fun i h => IsZip h z TI TO .none ∧ IsTupOf2 h TI (.ref i1) (.ref i2) ∧ (∃ x y, IsTupOf2 h TO x y) ∧ IterB l1 h i1 a i ∧ IterB l2 h i2 b i ∧ a ≠ i1 ∧ b ≠ i2) where
  mem := by simp
  obj := fun i h st c hc => by
    obtain ⟨hz, hTI, ⟨x, y, hTO⟩, h1, h2, _, _⟩ := st
    obtain ⟨o1, e1, _, d1⟩ := h1.obj
    obtain ⟨o2, e2, _, d2⟩ := h2.obj
    have e' : c = z ∨ c = TI ∨ c = TO ∨ c = i1 ∨ c = i2 := by simpa using hc
    rcases e' with q | q | q | q | q
    · rw [q]; exact ⟨_, hz, fun v q => nomatch q⟩
    · rw [q]; exact ⟨_, hTI, fun v q => nomatch q⟩
    · rw [q]; exact ⟨_, hTO, fun v q => nomatch q⟩
    · rw [q]; exact ⟨o1, e1, fun v q => by rw [d1] at q; cases q⟩
    · rw [q]; exact ⟨o2, e2, fun v q => by rw [d2] at q; cases q⟩
  keep := fun i h h' st k => by
    obtain ⟨hz, hTI, ⟨x, y, hTO⟩, h1, h2, n1, n2⟩ := st
    exact ⟨k z (by simp) _ hz, k TI (by simp) _ hTI, ⟨x, y, k TO (by simp) _ hTO⟩, h1.at fun o q => k i1 (by simp) o q, h2.at fun o q => k i2 (by simp) o q, n1, n2⟩
  item := by
    intro X hP hw hK hc i pins s σ H E I hf st hg
    subst hP hw hK
    obtain ⟨hz, hTI, ⟨x0, y0, hTO⟩, h1, h2, n1, n2⟩ := st
    obtain ⟨xs, ys, x, y, hqx, hqy, hx, hy⟩ := hg
    obtain ⟨its, rv, p⟩ := seqB_of I hqx
    obtain ⟨its2, rv2, p2⟩ := seqB_of I hqy
    obtain ⟨u, hu, ru⟩ := rv.get hx
    obtain ⟨u2, hu2, ru2⟩ := rv2.get hy
    have hzl : z < s.heap.objs.size := Heap.lt_size hz
    have hh : X.A.in1.handled = none := I.ok.hd hc
    refine wpAny_pyNext_zipD2_item S (drawsB l1 hh i1 a n1 its.toArray) (drawsB l2 hh i2 b n2 its2.toArray) hz hTI hTO ⟨h1, p⟩ ⟨h2, p2⟩ (by simpa using (List.getElem?_eq_some_iff.mp hu).1) (by simpa using (List.getElem?_eq_some_iff.mp hu2).1) fun v1 v2 h' tk q1 q2 z' TO' st1 st2 hT hsz hk => ?_
    obtain rfl : v1 = u := by
      have e : its.toArray[i]? = some u := by simpa using hu
      rw [e] at q1
      exact (Option.some.inj q1).symm
    obtain rfl : v2 = u2 := by
      have e : its2.toArray[i]? = some u2 := by simpa using hu2
      rw [e] at q2
      exact (Option.some.inj q2).symm
    refine ⟨_, rfl, wpAny_letOwnedTupleGo_zip (s := { s with heap := h', toks := tk }) z' fun h'' z'' sb => ?_⟩
    have hT2 : h''.get? s.heap.objs.size = some { cls := .type "tuple", data := .seq #[v1, v2] } := (sb.2 _ (Nat.ne_of_gt hzl)).trans hT
    have new : ObjOk X.prog X.w (upd H s.heap.objs.size (.tup [x, y])) h'' s.heap.objs.size (.tup [x, y]) :=
      ⟨by show 2 ≤ sizeLine; decide, [v1, v2], .cons ru (.cons ru2 .nil), ⟨_, hT2, rfl, _, rfl⟩⟩
    have I1 : Inv X pins σ (upd H s.heap.objs.size (.tup [x, y])) { s with heap := h'', toks := tk } :=
      I.turnedNew (t' := tk) (ch := [z, TI, TO, i1, i2]) (fun c o hb q => (sb.2 c (fun q' => hb (by simp [q']))).trans (hk c o (fun q' => hb (by simp [q'])) (fun q' => hb (by simp [q'])) (fun q' => hb (by simp [q'])) (fun q' => hb (by simp [q'])) q)) hf (Nat.le_refl _) new
    refine ⟨.ref s.heap.objs.size, _, I1, rfl, ⟨_, x, y, rfl, I.hok.fresh (Nat.le_refl _), rfl, fun l hl => by rw [seqB_inj I hl hqx]; exact hx, fun l hl => by rw [seqB_inj I hl hqy]; exact hy⟩, ⟨z'', ?_, ⟨v1, v2, ?_⟩, ?_, ?_, n1, n2⟩, fun c hcm => ?_⟩
    · exact (sb.2 _ S.TIz).trans (hk _ _ S.TIz S.TITO S.TIi1 S.TIi2 hTI)
    · exact (sb.2 _ S.TOz).trans TO'
    · exact st1.1.at fun o q => (sb.2 _ S.zi1.symm).trans q
    · exact st2.1.at fun o q => (sb.2 _ S.zi2.symm).trans q
    · have hlt : c < s.heap.objs.size := by
        have e' : c = z ∨ c = TI ∨ c = TO ∨ c = i1 ∨ c = i2 := by simpa using hcm
        rcases e' with q | q | q | q | q
        · rw [q]; exact hzl
        · rw [q]; exact Heap.lt_size hTI
        · rw [q]; exact Heap.lt_size hTO
        · rw [q]; obtain ⟨_, e1, _⟩ := h1.obj; exact Heap.lt_size e1
        · rw [q]; obtain ⟨_, e2, _⟩ := h2.obj; exact Heap.lt_size e2
      rw [upd_ne (Nat.ne_of_lt hlt)]
      exact (hf c hcm).1
  done := by
    intro X hP hw hK hc i pins s σ H E I hf st hg
    subst hP hw hK
    obtain ⟨hz, hTI, ⟨x0, y0, hTO⟩, h1, h2, n1, n2⟩ := st
    obtain ⟨xs, ys, hqx, hqy, le1, le2, hend⟩ := hg
    obtain ⟨its, rv, p⟩ := seqB_of I hqx
    obtain ⟨its2, rv2, p2⟩ := seqB_of I hqy
    have e1 := rv.length
    have e2 := rv2.length
    have hh : X.A.in1.handled = none := I.ok.hd hc
    exact wpAny_pyNext_zipD2_end S (drawsB l1 hh i1 a n1 its.toArray) (drawsB l2 hh i2 b n2 its2.toArray) hz hTI hTO ⟨h1, p⟩ ⟨h2, p2⟩ (by simp; omega) (by simp; omega) (by simp; omega) fun h' tk hk => ⟨rfl, I.turnedL (t' := tk) (ch := [z, TI, TO, i1, i2]) (fun c o hb q =>
      hk c o (fun q' => hb (by simp [q'])) (fun q' => hb (by simp [q'])) (fun q' => hb (by simp [q'])) (fun q' => hb (by simp [q'])) q) hf⟩
  self := fun A i s Q E st h => wpAny_pyIter_zip st.1 h
def itObj (l : Bool) (a : Addr) : Obj := { cls := .type (if l = true then "list_iterator" else "tuple_iterator"), data := .fields #[.ref a, .int 0 0] }
theorem beginsB (l : Bool) (a : Addr) (items : Array Value) : Begins (.ref a) (itObj l a) fun h => SeqB l h a items := by
  cases l with
  | true => exact begins_list a items
  | false => exact begins_tuple a items
theorem IterB.start {l : Bool} {h : Heap} {it a : Addr} (e : h.get? it = some (itObj l a)) : IterB l h it a 0 := by
  cases l with
  | true => exact ⟨_, e, rfl, rfl⟩
  | false => exact ⟨_, e, rfl, rfl⟩
def iZipB (K : PySem.W.Frag) (ta : TA) : TI := fun σ H R => ta σ H fun vs H1 => ∃ (l1 l2 : Bool) (a b : Addr) (xs ys : List V), vs = [.ref a, .ref b] ∧ SqB K l1 H1 a xs ∧ SqB K l2 H1 b ys ∧ R (ItzB K l1 l2 a b) H1
theorem pi_zipB {X : Cx} {e e2 : Expr} {ta : TA} {p pos tpos : Pos} {elts : List Expr} {kk : Nat} (hg : Gl X "zip") (hm : X.mg "zip" = none) (ha : PA X [e, e2] ta)
    (hs : starEach [e, e2] X.env = (false, eval e X.env) :: starEach [e2] X.env := by rfl) (hpl : (backTo pos (starEach [e2] X.env)).any (·.1) = false := by rfl) :
    PI X (.Tuple elts kk tpos) (.Call (.Name "zip" p) [e, e2] [] pos) (iZipB X.K ta) := by
  refine ⟨fun pins s σ H R I h => ?_⟩
  refine Call_ (ld_blt I hg hm PyProof.Rows.boot_zip (PyProof.Rows.callWith_type1 (thn (ha.run pos pins s σ H _ I h) fun us s1 ⟨vs, H1, I1, r1, q1⟩ => ?_) hs hpl))
  obtain ⟨l1, l2, a, b, xs, ys, ex, hqx, hqy, q⟩ := q1
  subst ex
  cases r1 with
  | cons r rr =>
    cases rr with
    | cons r' rr =>
      cases rr
      cases r
      cases r'
      obtain ⟨its, rv, p1⟩ := seqB_of I1 hqx
      obtain ⟨its2, rv2, p2⟩ := seqB_of I1 hqy
      have la := p1.lt
      have lb := p2.lt
      generalize hn : s1.heap.objs.size = n at la lb
      refine zip_begins2 (beginsB l1 a its.toArray) (beginsB l2 b its2.toArray) p1 p2 fun h' hz hTI hTO h1 h2 hsz hk => wpAny_pyIter_zip hz ?_
      rw [hn] at hz hTI hTO h1 h2
      have I2 : Inv X pins σ H1 { s1 with heap := h' } := I1.kept (t' := s1.toks) hk
      have S : ZipSep2 (n + 4) (n + 2) (n + 3) n (n + 1) [n, a] [n + 1, b] := by
        have ha : ∀ k : Nat, n + k ≠ a := fun k => Nat.ne_of_gt (Nat.lt_of_lt_of_le la (Nat.le_add_right n k))
        have hb : ∀ k : Nat, n + k ≠ b := fun k => Nat.ne_of_gt (Nat.lt_of_lt_of_le lb (Nat.le_add_right n k))
        have ha0 : n ≠ a := Nat.ne_of_gt la
        have hb0 : n ≠ b := Nat.ne_of_gt lb
        constructor <;> simp [ha, hb, ha0, hb0]
      rw [hn]
      refine ⟨n + 4, [n + 4, n + 2, n + 3, n, n + 1], _, _, H1, rfl, I2, turn_zipB S, ⟨hz, hTI, ⟨_, _, hTO⟩, IterB.start h1, IterB.start h2, Nat.ne_of_lt la, Nat.ne_of_lt (Nat.lt_succ_of_lt lb)⟩, fun c hcm => ?_, q⟩
      have hle : s1.heap.objs.size ≤ c := by
        rw [hn]
        have e' : c = n + 4 ∨ c = n + 2 ∨ c = n + 3 ∨ c = n ∨ c = n + 1 := by simpa using hcm
        rcases e' with z | z | z | z | z
        · rw [z]; exact Nat.le_add_right _ _
        · rw [z]; exact Nat.le_add_right _ _
        · rw [z]; exact Nat.le_add_right _ _
        · rw [z]; exact Nat.le_refl _
        · rw [z]; exact Nat.le_add_right _ _
      exact I1.fpOk hle (I1.hok.fresh hle)
def sqD : D → Option (List D)
  | .list ds => some ds
  | .tuple ds => some ds
  | _ => none
def zipL : List D → List D → List D
  | a :: as, b :: bs => .tuple [a, b] :: zipL as bs
  | _, _ => []
theorem zipL_len : ∀ (as bs : List D), (zipL as bs).length = min as.length bs.length
  | [], bs => by simp [zipL]
  | a :: as, [] => by simp [zipL]
  | a :: as, b :: bs => by simp [zipL, zipL_len as bs]
theorem zipL_get : ∀ (as bs : List D) (i : Nat) (d : D), (zipL as bs)[i]? = some d → ∃ x y, as[i]? = some x ∧ bs[i]? = some y ∧ d = .tuple [x, y]
  | [], bs, i, d, h => by simp [zipL] at h
  | a :: as, [], i, d, h => by simp [zipL] at h
  | a :: as, b :: bs, 0, d, h => by simp [zipL] at h; exact ⟨a, b, by simp, by simp, h.symm⟩
  | a :: as, b :: bs, i + 1, d, h => by
    obtain ⟨x, y, h1, h2, h3⟩ := zipL_get as bs i d (by simpa [zipL] using h)
    exact ⟨x, y, by simpa using h1, by simpa using h2, h3⟩
def zipD : List D → Option (List D)
  | [a, b] => (sqD a).bind fun as => (sqD b).map fun bs => zipL as bs
  | _ => none
def rZip (rs : RA) : RA := fun ρ => bnd (rs ρ) fun ds => okO (zipD ds)
theorem SqB.mono {K : PySem.W.Frag} {H H' : Hp} {l : Bool} {a : Addr} {xs : List V} (s : Same H H') (h : SqB K l H a xs) : SqB K l H' a xs := by
  cases l with
  | true => exact s.seq (show SqL K H a xs from h)
  | false => exact sqt_mono s (show SqT K H a xs from h)
theorem sqD_fit {K : PySem.W.Frag} {H : Hp} {v : V} {d : D} {ds : List D} (h : Fit K H v d) (e : sqD d = some ds) : ∃ (l : Bool) (a : Addr) (xs : List V), v = .ref a ∧ SqB K l H a xs ∧ FitAll K H xs ds := by
  cases h with
  | lst a b => cases e; exact ⟨true, _, _, rfl, .inl a, b⟩
  | tup a b => cases e; exact ⟨false, _, _, rfl, a, b⟩
  | _ => cases e
theorem it_zipB {K : PySem.W.Frag} {Z : Hp} {l1 l2 : Bool} {a b : Addr} {xs ys : List V} {as bs : List D} (h1 : SqB K l1 Z a xs) (h2 : SqB K l2 Z b ys) (d1 : FitAll K Z xs as) (d2 : FitAll K Z ys bs) : ItOk K (ItzB K l1 l2 a b) Z (zipL as bs) where
  go := fun i H s hi => by
    rw [zipL_len] at hi
    exact ⟨xs, ys, xs[i]'(by rw [FitAll.len d1]; omega), ys[i]'(by rw [FitAll.len d2]; omega), h1.mono s, h2.mono s, List.getElem?_eq_getElem _, List.getElem?_eq_getElem _⟩
  stop := fun H s => by
    have l1 := FitAll.len d1
    have l2 := FitAll.len d2
    refine ⟨xs, ys, h1.mono s, h2.mono s, ?_, ?_, ?_⟩ <;> rw [zipL_len] <;> omega
  yld := fun i H x H' s y d hi => by
    obtain ⟨T, x, y, rfl, n, rfl, y1, y2⟩ := y
    obtain ⟨u, v, q1, q2, rfl⟩ := zipL_get as bs i d hi
    exact ⟨same_new n _, fun F O z nb => dp_newT n (nb T n) (.cons (dp_mono z (FitAll.at d1 (y1 xs (h1.mono s)) q1)) (.cons (dp_mono z (FitAll.at d2 (y2 ys (h2.mono s)) q2)) .nil))⟩
theorem di_zip {F : Fx} {E : XK} {X : Cx} {e e2 : Expr} {ta : TA} {rs : RA} {p pos tpos : Pos} {elts : List Expr} {kk : Nat} (hm : X.mg "zip" = none) (ha : DA F E X true [e, e2] ta rs) (hg : Gl X "zip" := by rfl)
    (hs : starEach [e, e2] X.env = (false, eval e X.env) :: starEach [e2] X.env := by rfl) (hpl : (backTo pos (starEach [e2] X.env)).any (·.1) = false := by rfl) :
    DI F E X (.Tuple elts kk tpos) (.Call (.Name "zip" p) [e, e2] [] pos) (iZipB X.K ta) (rZip rs) := ⟨pi_zipB hg hm ha.run hs hpl, ⟨fun {H0 Z O σ H ρ o Q} hh e er k => ha.snd.bnd hh e er fun ds vs H1 e1 x1 hh1 d1 => by
  obtain ⟨es, e2, rfl⟩ := okO_eq e1
  unfold zipD at e2
  split at e2
  · obtain ⟨as, e3, e4⟩ := Option.bind_eq_some_iff.mp e2
    obtain ⟨bs, e5, rfl⟩ := Option.map_eq_some_iff.mp e4
    obtain ⟨v, w, rfl, f1, f2⟩ := dps2 d1
    obtain ⟨l1, a, xs, rfl, s1, t1⟩ := sqD_fit f1 e3
    obtain ⟨l2, b, ys, rfl, s2, t2⟩ := sqD_fit f2 e5
    exact ⟨l1, l2, a, b, xs, ys, rfl, s1.mono hp_le, s2.mono hp_le, k _ _ H1 rfl x1 (it_zipB s1 s2 t1 t2)⟩
  · cases e2⟩⟩
@[simp] theorem rZip_ap (rs : RA) (ρ : En) : rZip rs ρ = bnd (rs ρ) fun ds => okO (zipD ds) := rfl
end DL
set_option Elab.async false
set_option linter.all false
set_option maxRecDepth 100000
/-! An exception that leaves a list comprehension. -/
namespace DL
open PySem PySem.Spec L2 PyProof.Rows
theorem noteFrame_frame {e : Value} {env env' : Env} (h : env.frame = env'.frame) : noteFrame e env = noteFrame e env' := by
  unfold noteFrame PySem.frameOf
  rw [h]
theorem cx_and {P : Program} {w : World} {outer : List Env} {H : Hp} {s s' : Shared} {E : XK} {u : Value} {C : Addr} {o : Obj} (hc : s.heap.get? C = some o) (hn : H C = none) (h : L2.CX P w outer H s E u s') :
    L2.CX P w outer H s (fun c d H' => E c d H' ∧ H' C = none) u s' := by
  obtain ⟨a, B, H', cls, d, e, fl, hok, ub, na, os, ag, w⟩ := h
  exact ⟨a, B, H', cls, d, e, fl, hok, ub, na, os, ag, w, ub.free C o hc hn⟩
theorem ff_but {B B2 h h' : Heap} {C : Addr} (k : ∀ b, b ≠ C → h'.get? b = h.get? b) (kb : ∀ b, B.get? b = none → B2.get? b = none) : ∀ {l : List Env}, h.FunFrames B l → C ∉ frs l → h'.FunFrames B2 l
  | [], _, _ => trivial
  | env :: l, x, n => by
    obtain ⟨x1, ⟨L, o, y1, y2, y3, y4⟩, x3⟩ := x
    have ne : L ≠ C := fun z => n (List.mem_filterMap.mpr ⟨env, List.mem_cons_self, by rw [y1, z]⟩)
    refine ⟨x1, ⟨L, o, y1, kb L y2, (k L ne).trans y3, y4⟩, ff_but k kb x3 fun z => n ?_⟩
    obtain ⟨e, he, q⟩ := List.mem_filterMap.mp z
    exact List.mem_filterMap.mpr ⟨e, List.mem_cons_of_mem _ he, q⟩
theorem sky_hold {M : Model} {A : Around} {E₁ : Value → Shared → Prop} {B : Heap} {env : Env} {outer : List Env} {L a : Addr} {Z : Obj → Prop} {s : Shared} {Q : Unit → Shared → Prop} (hZ : HandSPX.Steady Z) (hfr : A.frames = some (env :: outer)) (hf : env.frame = some L)
    (x : Sky B (env :: outer) a Z L s.heap) (hQ : ∀ h', HandSPX.HeldZ B (env :: outer) a Z L h' → s.heap.UpToSlots h' → Q () { s with heap := h' }) : wpAny M A (noteFrame (.ref a) env) Q E₁ s := by
  rcases x with ⟨y1, y2, y3, oe, vs, y4, y5, y6, y7⟩ | y | y
  · exact HandSPX.look_newZ hZ hfr y3 hf y4 y1 y2 y6 y7 y5 hQ
  · exact HandSPX.looks_onZ hZ hfr hf y hQ
  · exact HandSPX.againZ hf y.2.2.2 (hQ s.heap y (Heap.UpToSlots.refl _))
/-- what the block owes where an exception leaves it -/
theorem comp_fails {X : Cx} {pins pb : List (Addr × Obj)} {σ σb : L2.St} {H3 Hb : Hp} {s3 sb s' : Shared} {E : XK} {C : Addr} {ce : Env} {fp : List Addr} {scope : Scope} {u : Value} (I3 : Inv X pins σ H3 s3) (tk : Takes X (fun cls d _ H => E cls d H)) (hs : X.stack = X.env :: X.outer) (hf : X.env.frame = some X.env.locals)
    (hC : ce.locals = C) (hfr : ce.frame = X.env.frame) (hsz : s3.heap.objs.size ≤ C) (f3 : ∀ b ∈ fp, FpOk X pins H3 b) (Ib : Inv (X.blk s3 H3 scope ce fp) pb σb Hb sb) (cx : L2.CX X.prog X.w X.stack Hb sb E u s') :
    notedBy (model X.prog X.w) X.A ce (fun e s => CompFails (model X.prog X.w) X.A X.xe ce e s) u s' := by
  have J : Inv X pins σ Hb sb := I3.call' (ch := fp) Ib.os Ib.base Ib.hok Ib.bare fun b hb => ⟨(f3 b hb).2.2.2.1, (f3 b hb).2.1, (f3 b hb).2.2.2.2.1, (f3 b hb).2.2.2.2.2⟩
  have nC : Hb C = none := by
    have z : Hb ce.locals = none := Ib.free
    rw [hC] at z
    exact z
  obtain ⟨m, ns, _⟩ := Ib.loc
  have ns : sb.heap.Ns C m := by rw [← hC]; exact ns
  have ns0 := ns
  obtain ⟨oC, es, ep, hoC, hdC, hr⟩ := ns
  have F : FpOk X pins Hb C := I3.fpOk hsz nC
  have nst : C ∉ frs X.stack := fun z => by
    rcases List.mem_cons.mp (J.stkSub C z) with y | y
    · exact F.2.1 y
    · exact F.2.2.1 y
  have inB : ∃ B' : Heap, B'.get? C = some oC ∧ B'.StaysIn s'.heap := by
    obtain ⟨a', B', H', cls', d', e', fl, hok, ub, _⟩ := cx
    exact ⟨B', ub.keep C oC hoC nC nst, fl.1⟩
  obtain ⟨B', hB', st'⟩ := inB
  have hC' : s'.heap.get? C = some oC := st' C oC hB'
  have cx2 := cx_and hoC nC cx
  obtain ⟨a, B, sI, pI, σI, HI, cls, d, rfl, I, nb, up, sky, na, os, ag, wE, wC⟩ := XE.of_call (W := fun c d _ H => E c d H ∧ H C = none) J (fun _ _ _ h => h) cx2
  show wpAny _ _ (noteFrame (.ref a) ce) _ _ _
  rw [noteFrame_frame hfr]
  have hfrm : X.A.frames = some (X.env :: X.outer) := by rw [I.ok.frames, hs]
  rw [hs] at sky
  refine sky_hold Zc.steady hfrm hf sky fun h1 hh up1 => ?_
  obtain ⟨sl, hC1⟩ := up1 C oC hC' (fun vs z => by rw [hdC] at z; cases z)
  have hh0 := hh
  obtain ⟨k1, k2, k3, oe, vs, T, oT, ts, t1, t2, t3, t4, t5, t6, t7, t8, t9⟩ := hh
  have neA : a ≠ C := fun z => by rw [z, hC1] at t1; cases t1; rw [hdC] at t3; cases t3
  have neT : T ≠ C := fun z => by rw [z, hC1] at t7; cases t7; rw [hdC] at t8; cases t8
  refine ⟨m, ⟨_, es, ep, by rw [hC]; exact hC1, (show ({ oC with slots := sl } : Obj).data = _ from hdC), hr⟩, fun h' m' hn' sb' => ?_⟩
  rw [hC] at sb'
  have sm : ∀ b, b ≠ C → h'.get? b = h1.get? b := sb'.2
  have bn : ∀ b, B.get? b = none → (PySem.W.hideAll B [C]).get? b = none := fun b z => by
    cases q : (PySem.W.hideAll B [C]).get? b with
    | none => rfl
    | some o =>
      have y := PySem.W.of_hideAll [C] q
      rw [z] at y; cases y
  have ne_of : ∀ {G : Heap} {b : Addr} {o : Obj}, (PySem.W.hideAll G [C]).get? b = some o → b ≠ C := fun {G b o} q z => by
    rw [z, PySem.W.hideAll_none [C] (by simp)] at q; cases q
  have held : HandSPX.HeldZ (PySem.W.hideAll B [C]) (X.env :: X.outer) a (Zc cls d) X.env.locals h' := by
    refine ⟨fun b o q => ?_, bn a k2, ff_but sm bn k3 (by rw [← hs]; exact nst), oe, vs, T, oT, ts, (sm a neA).trans t1, t2, t3, t4, bn T t5, t6, (sm T neT).trans t7, t8, t9⟩
    exact (sm b (ne_of q)).trans (k1 b o (PySem.W.of_hideAll [C] q))
  show wpAny _ _ (PySem.passOn _ (.ref a) ce : Sem Value) _ _ _
  unfold PySem.passOn
  refine wpAny_bind (wpAny_field (s := { s' with heap := h' }) ((sm a neA).trans t1) t3 t4 ?_)
  rw [if_neg (show ¬ ((Value.ref T == Value.none) = true) from by simp)]
  refine wpAny_bind ?_
  rw [hfr, hf]
  refine HandSPX.setFlight_onZ (s := { s' with heap := h' }) held fun h2 hh2 up2 => wpAny_throw ?_
  refine tk _ _ ⟨a, PySem.W.hideAll B [C], { sI with heap := PySem.W.hideAll sI.heap [C] }, [], σI, HI, cls, d, rfl, ?_, fun b o e hb => ?_, fun b o e hd => ?_, ?_, na, os, ag, wE⟩
  · have ip : ∀ p ∈ X.pn ++ [], p.1 ≠ C := fun p hp => F.2.2.2.2.2 p (List.mem_append_left _ (by simpa using hp))
    have I0 : Inv X [] σI HI sI := I.unpinned (pins := [])
    exact I0.turned (t' := sI.toks) (it := C) (fun b o hb e => PySem.W.hideAll_get [C] e (by simp [hb])) wC F.2.1 F.2.2.2.1 F.2.2.2.2.1 ip
  · exact PySem.W.hideAll_get [C] (nb b o (PySem.W.of_hideAll [C] e) hb) (by simp [ne_of e])
  · have ne := ne_of e
    have e1 := PySem.W.of_hideAll [C] e
    obtain ⟨sl1, q1⟩ := up b o e1 hd
    obtain ⟨sl2, q2⟩ := up1 b _ q1 hd
    obtain ⟨sl3, q3⟩ := up2 b _ ((sm b ne).trans q2) hd
    exact ⟨sl3, q3⟩
  · rw [hs]; exact .inr (.inr hh2)
/-- the context of a block whose item may raise -/
abbrev blkX (X : Cx) (E : XK) (s : Shared) (H : Hp) (scope : Scope) (cenv : Env) (fp : List Addr) : Cx := (X.blk s H scope cenv fp).wish fun u s' => ∃ pb σb Hb sb, Inv (X.blk s H scope cenv fp) pb σb Hb sb ∧ L2.CX X.prog X.w X.stack Hb sb E u s'
theorem passB {X : Cx} {E : XK} {s : Shared} {H : Hp} {scope : Scope} {cenv : Env} {fp : List Addr} : Passes (L2.CX X.prog X.w) (blkX X E s H scope cenv fp) E := fun pb σb Hb sb _ _ I h => ⟨pb, σb, Hb, sb, I.unwish, h⟩
section
variable {X : Cx} {elt tg iter : Expr} {ifs : List Expr} {scope : Scope} {own : List (Str × Nat)} {pos : Pos} {wi : TI} {g : TG} {tt : TT} {te : TE} {E : XK}
set_option maxHeartbeats 1000000 in
theorem pe_lcX (hc : X.calm = true) (hN : X.N.Nodup) (tk : Takes X (fun cls d _ H => E cls d H)) (hs0 : X.stack = X.env :: X.outer) (hf0 : X.env.frame = some X.env.locals) (hi : PI X tg iter wi) (ok : BlkOk X.N X.env.scope scope own)
    (hg : ∀ (s : Shared) (H : Hp) (C : Addr) (cl : List (Str × Addr)) (fp : List Addr), PG (X.blk s H scope (compEnvC scope cl C X.env) fp) tg g)
    (ht : ∀ (s : Shared) (H : Hp) (C : Addr) (cl : List (Str × Addr)) (fp : List Addr), PTs (X.blk s H scope (compEnvC scope cl C X.env) fp) ifs tt)
    (he : ∀ (s : Shared) (H : Hp) (C : Addr) (cl : List (Str × Addr)) (fp : List Addr), PE (blkX X E s H scope (compEnvC scope cl C X.env) fp) elt te)
    (hs : ∀ x, foldedSetIterable iter X.env x = pure x := by intro _; rfl) : PE X (.ListComp elt [⟨tg, iter, ifs, 0⟩] scope pos) (tLc wi g tt te (own.map (·.2))) := by
  refine ⟨fun pins s σ H Q I h => ?_⟩
  rw [eval_ListComp]
  have cells : ∀ y ∈ scope.names, y.2 = .free → ∃ c, X.env.cells.lookup y.1 = some c := fun y hy e => (ok.free y hy e).elim (fun k => I.ok.has _ (.inl k)) fun k => I.ok.has _ (.inr k)
  refine comprehension_at (use := none) rfl hs (closure_ok cells) ok.kind (fun y hy e => by rw [ok.uniq y hy, e]) (thn (hi.run pins s σ H _ I h) fun xv s1 hx => thn hx fun itv s2 h2 => ?_)
  obtain ⟨it, fp, tn, J, G, rfl, IG, T, stG, fG, q⟩ := h2
  refine wpAny_newObj_type (newEnv_comp ?_) (by show 0 ≤ sizeLine; decide)
  generalize eD : s2.heap.objs.size = L
  have nL : G L = none := IG.hok.fresh (Nat.le_of_eq eD)
  obtain ⟨W, ⟨m0, w0⟩, turn⟩ := q L nL
  generalize es3 : ({ s2 with heap := s2.heap.push { cls := .type "list", data := .seq ([] : List Value).toArray } } : Shared) = s3
  have IL : Inv X pins σ (upd G L (.lst [])) s3 := by
    rw [← es3]
    refine IG.laid (t' := s2.toks) (fun b o e => Heap.get?_push_of_some _ e) (Nat.le_of_eq eD) ⟨Nat.zero_le _, [], 0, .nil, ?_⟩
    rw [← eD]
    exact Heap.get?_push_size _ rfl
  have e3 : s3.heap = s2.heap.push { cls := .type "list", data := .seq ([] : List Value).toArray } := by rw [← es3]
  have fL : ∀ b ∈ fp, FpOk X pins (upd G L (.lst [])) b ∧ b < s3.heap.objs.size := fun b hb => by
    obtain ⟨o, eo, _⟩ := T.obj _ _ stG b hb
    have lt := Heap.lt_size eo
    refine ⟨⟨?_, (fG b hb).2⟩, by rw [e3, Heap.size_push]; exact Nat.lt_succ_of_lt lt⟩
    rw [upd_ne (by rw [← eD]; exact Nat.ne_of_lt lt)]
    exact (fG b hb).1
  have st3 : tn 0 s3.heap := T.keep _ _ _ stG fun b _ o e => by rw [e3]; exact Heap.get?_push_of_some _ e
  have IB := block_start IL ok hN fL
  have pg := hg s3 (upd G L (.lst [])) s3.heap.objs.size (cellsFrom (s3.heap.objs.size + 1) scope.names (cloFrom X.env.cells scope.names [])) fp
  have pt := ht s3 (upd G L (.lst [])) s3.heap.objs.size (cellsFrom (s3.heap.objs.size + 1) scope.names (cloFrom X.env.cells scope.names [])) fp
  have pe := he s3 (upd G L (.lst [])) s3.heap.objs.size (cellsFrom (s3.heap.objs.size + 1) scope.names (cloFrom X.env.cells scope.names [])) fp
  show codeAny _ _ (.compStart (.ListComp elt [⟨tg, iter, ifs, 0⟩] scope pos) 0 (.ref it) (.ref L) (compEnvC scope (cellsFrom (s3.heap.objs.size + 1) scope.names (cloFrom X.env.cells scope.names [])) s3.heap.objs.size X.env))
    (compEnds (model X.prog X.w) X.A X.xe none _ (.ref L) (compEnvC scope (cellsFrom (s3.heap.objs.size + 1) scope.names (cloFrom X.env.cells scope.names [])) s3.heap.objs.size X.env)) { s3 with heap := pushCells (s3.heap.push { cls := .type "dict", data := .dict #[] }) scope.names }
  have free0 : ∀ b ∈ fp, (upd G L (.lst [])) b = none := fun b hb => (fL b hb).1.1
  have cF : (compEnvC scope (cellsFrom (s3.heap.objs.size + 1) scope.names (cloFrom X.env.cells scope.names [])) s3.heap.objs.size X.env).frame = X.env.frame := rfl
  generalize ece : compEnvC scope (cellsFrom (s3.heap.objs.size + 1) scope.names (cloFrom X.env.cells scope.names [])) s3.heap.objs.size X.env = ce at IB pg pt pe cF ⊢
  have cL : ce.locals = s3.heap.objs.size := by subst ece; rfl
  generalize eH3 : upd G L (.lst []) = H3 at IL IB pg pt pe w0 free0 fL
  generalize es4 : ({ s3 with heap := pushCells (s3.heap.push { cls := .type "dict", data := .dict #[] }) scope.names } : Shared) = s4 at IB ⊢
  have st4 : tn 0 s4.heap := T.keep _ _ _ st3 fun b _ o e => by rw [← es4]; exact pushCells_keeps _ _ _ _ (Heap.get?_push_of_some _ e)
  have fpB : ∀ {σ' : L2.St} {H' : Hp} {s' : Shared}, Inv (X.blk s3 H3 scope ce fp) [] σ' H' s' → (∀ b ∈ fp, H' b = none) → ∀ b ∈ fp, FpOk (X.blk s3 H3 scope ce fp) [] H' b := fun {σ' H' s'} I' hn b hb =>
    ⟨hn b hb, (I'.ok.exf b hb).1, I'.ok.exfs b hb, .inl hb, fun x c e => (I'.ok.exf b hb).2 x c e, fun p hp => absurd (show p ∈ ([] : List (Addr × Obj)) ++ [] from hp) (by simp)⟩
  have loop : codeAny (model X.prog X.w) X.A (.compLoop (.ListComp elt [⟨tg, iter, ifs, 0⟩] scope pos) 0 (.ref it) (.ref L) ce) (compEnds (model X.prog X.w) X.A X.xe none (EP X pins σ Q) (.ref L) ce) s4 := by
    refine compLoop_any (fun n s' => ∃ i H', Inv (X.blk s3 H3 scope ce fp) [] (wipe σ (own.map (·.2))) H' s' ∧ tn i s'.heap ∧ (∀ b ∈ fp, H' b = none) ∧ W i n H') ?_ m0 ⟨0, H3, IB, st4, free0, w0⟩
    rintro n s5 ⟨i, H5, I5, st5, n5, w5⟩
    rcases turn i n H5 w5 with ⟨stop, qq⟩ | ⟨go, Nx, hNx, step⟩
    · refine thnF (T.done (X.blk s3 H3 scope ce fp) rfl rfl rfl hc i [] s5 _ H5 (fun _ _ => False) I5 (fpB I5 n5) st5 stop) fun r s6 ⟨hr, I6⟩ => ?_
      subst hr
      have IE : Inv X pins σ H5 s6 := IL.call' (ch := fp) I6.os I6.base I6.hok I6.bare fun b hb => ⟨(fL b hb).1.2.2.2.1, (fL b hb).1.2.1, (fL b hb).1.2.2.2.2.1, (fL b hb).1.2.2.2.2.2⟩
      have nC : H5 ce.locals = none := I6.free
      obtain ⟨m, hn, _⟩ := I6.loc
      obtain ⟨f0, f1, f2, f3, f4, f5⟩ := IL.fpOk (H' := H5) (b := ce.locals) (by rw [cL]; exact Nat.le_refl _) nC
      exact ⟨m, hn, fun h'' sb => ⟨.ref L, H5, IE.turned (t' := s6.toks) (fun b o hb e => (sb.2 b hb).trans e) f0 f1 f3 f4 f5, rfl, qq⟩⟩
    · refine thnF (T.item (X.blk s3 H3 scope ce fp) rfl rfl rfl hc i [] s5 _ H5 (fun _ _ => False) I5 (fpB I5 n5) st5 go) fun r s6 ⟨u, hr, h6⟩ => ?_
      subst hr
      refine thnF h6 fun _ s7 ⟨x, H7, I7, r7, y7, st7, n7⟩ => ?_
      refine thnF (pg.run _ s7 _ H7 x u _ (I7.pinned (fpB I7 n7) (T.obj _ _ st7)) r7 (step x H7 y7)) fun _ s8 ⟨σ8, H8, I8, hw8, q8⟩ => ?_
      refine thnF (pt.run _ s8 σ8 H8 _ I8 q8) fun b s9 ⟨H9, I9, q9⟩ => ?_
      have fin : ∀ {s' : Shared} {H' : Hp}, Inv (X.blk s3 H3 scope ce fp) ([] ++ pinsAt fp s7.heap) σ8 H' s' → Nx H' → ∃ m, m < n ∧ ∃ i H', Inv (X.blk s3 H3 scope ce fp) [] (wipe σ (own.map (·.2))) H' s' ∧ tn i s'.heap ∧ (∀ b ∈ fp, H' b = none) ∧ W i m H' := fun {s' H'} I' nx => by
        obtain ⟨m', hm, w'⟩ := hNx H' nx
        have pinned : ∀ b ∈ fp, ∀ o, s7.heap.get? b = some o → s'.heap.get? b = some o ∧ H' b = none := fun b hb o e =>
          have z := I'.pin (b, o) (List.mem_append_right _ (List.mem_append_right _ (mem_pinsAt hb e)))
          ⟨z.1, z.2.1⟩
        have hl : (wipe σ (own.map (·.2))).length = σ8.length := by rw [← hw8, wipe_length]
        refine ⟨m', hm, i + 1, H', (I'.unpinned (pins := [])).weak hl (fun j v e => ?_), T.keep _ _ _ st7 fun b hb o e => (pinned b hb o e).1, fun b hb => ?_, w'⟩
        · rw [← hw8] at e
          exact (wipe_some e).1
        · obtain ⟨o, e, _⟩ := T.obj _ _ st7 b hb
          exact (pinned b hb o e).2
      cases b with
      | false =>
        simp only [Bool.false_eq_true, if_false] at q9 ⊢
        exact fin I9 q9
      | true =>
        simp only [if_true] at q9 ⊢
        refine wpAny_mono (pe.run _ s9 σ8 H9 _ (I9.wish _) q9) (fun z s10 ⟨yv, H10, I10, r10, acc, hD10, hz10, nx⟩ => ?_) fun u s' ⟨pb, σb, Hb, sb, Ib, cx⟩ => ?_
        · exact app_ok (X := X.blk s3 H3 scope ce fp) I10.unwish hD10 hz10 r10 fun s11 I11 => fin I11 nx
        · exact comp_fails IL tk hs0 hf0 cL cF (Nat.le_refl _) (fun b hb => (fL b hb).1) Ib cx
  exact codeAny_compStart_list loop (T.self X.A 0 _ _ _ st4 loop)
end
/-! its meaning -/
def lcX (rg : RG) (rt : RT) (re : RE) (ρ : En) : List D → R (List D)
  | [] => some (.ok [])
  | d :: ds => match rg d ρ with
    | none => none
    | some ρ1 => match rt ρ1 with
      | some (.ok true) => bnd (re ρ1) fun y => bnd (lcX rg rt re ρ ds) fun ys => some (.ok (y :: ys))
      | some (.ok false) => lcX rg rt re ρ ds
      | _ => none
def rLcX (ri : RA) (rg : RG) (rt : RT) (re : RE) (vs : List Nat) : RE := fun ρ => bnd (ri ρ) fun ds => if ds.length ≤ 1000000 ∧ vs.all (noOwn ρ) = true then bnd (lcX rg rt re (wipeR ρ vs) ds) fun es => some (.ok (.list es)) else none
theorem err_plus {F : Fx} {E : XK} {B : Addr → Prop} {H : Hp} {β : Type} {o : Except Cn β} (h : Err F E H o) : Err (F.plus B) E H o := fun c q H' x => h c q H' (ext_plus.mp x)
theorem se_lcX {K : PySem.W.Frag} {F : Fx} {E : XK} {fr : Bool} {wi : TI} {g : TG} {tt : TT} {te : TE} {ri : RA} {rg : RG} {rt : RT} {re : RE} {vs : List Nat} (hi : SI K F E wi ri) (hg : ∀ B, SG K (F.plus B) g rg vs) (ht : ∀ B, ST K (F.plus B) E0 tt rt) (he : ∀ B, SE K (F.plus B) E fr te re) :
    SE K F E fr (tLc wi g tt te vs) (rLcX ri rg rt re vs) := ⟨fun {H0 Z O σ H ρ o Q} hh e er k => by
  rcases bnd_cases e with ⟨ds, e1, e2⟩ | ⟨c, e1, e2⟩
  · by_cases cl : ds.length ≤ 1000000 ∧ vs.all (noOwn ρ) = true
    · rw [if_pos cl] at e2
      refine hi.go hh e1 Err.ok fun ds' J H1 q x1 it => ?_
      cases q
      intro p np
      have hh1 := (hh.go x1).wipe vs cl.2
      have noo : ∀ i ∈ vs, ∀ a, O[i]? ≠ some (some a) := fun i hi a q => by
        obtain ⟨ds, w⟩ := hh.oin i a q
        have z := List.all_eq_true.mp cl.2 i hi
        unfold noOwn at z
        rw [w] at z
        cases z
      have nbp : ¬ (F.bad p ∨ (fr = true ∧ some p ∈ O)) := (hh.go x1).fresh np
      refine ⟨fun i m H' => m = ds.length - i ∧ i ≤ ds.length ∧ Ext F H1 H' ∧ ∃ acc es, H' p = some (.lst acc) ∧ FitAll K (hp (F.plus (· = p)) O fr H') acc es ∧ acc.length ≤ i ∧ bnd (lcX rg rt re (wipeR ρ vs) (ds.drop i)) (fun ys => some (.ok (.list (es ++ ys)))) = some o,
        ⟨ds.length, rfl, Nat.zero_le _, ext_new np _, [], [], upd_same, .nil, Nat.le_refl _, by rw [List.drop_zero]; exact e2⟩, ?_⟩
      rintro i m H' ⟨rfl, hle, x2, acc, es, hp1, hd, hlen, hl⟩
      have h2 := hh1.plus np x2 (by rw [hp1]; exact fun z => nomatch z)
      have sz : Same (hp F O true H1) H' := h2.frz.trans hp_le
      by_cases hlt : i < ds.length
      · rw [List.drop_eq_getElem_cons hlt] at hl
        refine .inr ⟨it.go i H' sz hlt, fun H3 => i + 1 ≤ ds.length ∧ Ext F H1 H3 ∧ ∃ acc es, H3 p = some (.lst acc) ∧ FitAll K (hp (F.plus (· = p)) O fr H3) acc es ∧ acc.length ≤ i + 1 ∧ bnd (lcX rg rt re (wipeR ρ vs) (ds.drop (i + 1))) (fun ys => some (.ok (.list (es ++ ys)))) = some o, fun H3 w => ⟨ds.length - (i + 1), by omega, rfl, w⟩, fun x H3 y => ?_⟩
        obtain ⟨s3, dd⟩ := it.yld i H' x H3 sz y ds[i] (List.getElem?_eq_getElem hlt)
        have d3 := dd (F.plus (· = p)) O h2.frz fun p n => h2.fresh n
        have x3 : Ext (F.plus (· = p)) H' H3 := Ext.of s3
        have h3 := h2.go x3
        unfold lcX at hl
        cases c1 : rg ds[i] (wipeR ρ vs) with
        | none => rw [c1] at hl; cases hl
        | some ρ1 =>
          simp only [c1] at hl
          refine (hg _).go h3 d3 c1 fun O4 σ4 h4 s4 w4 n4 => ⟨w4.trans (wipe_wipe σ vs), ?_⟩
          cases c2 : rt ρ1 with
          | none => simp only [c2] at hl; cases hl
          | some o2 =>
            simp only [c2] at hl
            cases o2 with
            | error c => cases hl
            | ok b =>
              refine (ht _).go h4 c2 Err.ok fun b' H5 q x5 => ?_
              cases q
              cases b with
              | true =>
                refine iteT ?_
                simp only at hl
                cases c3 : re ρ1 with
                | none => rw [c3] at hl; cases hl
                | some o3 =>
                  rw [c3] at hl
                  cases o3 with
                  | error c =>
                    cases hl
                    have xx : Ext (F.plus (· = p)) H' H5 := x3.trans x5
                    have er2 : Err (F.plus (· = p)) E H5 (.error c : Except Cn D) := err_plus ((er.go x1).go (x2.trans (ext_plus.mp xx)))
                    exact (he _).go (h4.go x5) c3 er2 fun y' v H6 q => nomatch q
                  | ok y =>
                    refine (he _).go (h4.go x5) c3 Err.ok fun y' v H6 q x6 d6 => ?_
                    cases q
                    have xx : Ext (F.plus (· = p)) H' H6 := (x3.trans x5).trans x6
                    have nmu : ¬ F.mu p := fun z => nbp (.inl (F.sub p z))
                    have p6 : H6 p = some (.lst acc) := xx.keep p _ nmu hp1
                    have oo : Same (hp (F.plus (· = p)) O4 fr H6) (hp (F.plus (· = p)) O fr H6) := hp_less fun a q => (n4 noo).1 a q
                    have up : Same (hp (F.plus (· = p)) O fr H6) (hp (F.plus (· = p)) O fr (upd H6 p (.lst (acc ++ [v])))) := fun b o q => by
                      obtain ⟨a1, a2⟩ := hp_some.mp q
                      have ne : b ≠ p := fun z => a1 (.inl (.inr z))
                      exact hp_some.mpr ⟨a1, by rw [upd_ne ne]; exact a2⟩
                    have l6 : acc.length < sizeLine := szM (by have := cl.1; omega)
                    have x7 : Ext F H1 (upd H6 p (.lst (acc ++ [v]))) := by
                      have x6 := x2.trans (ext_plus.mp xx)
                      refine ⟨fun b o m q => ?_, fun b q => ?_, fun q => F.lst H6 p acc _ p6 (x6.inv q)⟩
                      · rw [upd_ne (ne_of_none q np)]; exact x6.keep b o m q
                      · by_cases z : b = p
                        · subst z; exact absurd np q
                        · rw [upd_ne z]; exact x6.live b q
                    refine ⟨acc, p6, l6, hlt, x7, acc ++ [v], es ++ [y], upd_same, FitAll.app (dps_mono up (dps_mono (hp_ext xx) hd)) (.cons (dp_mono up (dp_mono oo d6)) .nil), by rw [List.length_append, List.length_singleton]; omega, ?_⟩
                    rw [bnd_ok] at hl
                    cases c4 : lcX rg rt re (wipeR ρ vs) (ds.drop (i + 1)) with
                    | none => rw [c4] at hl; cases hl
                    | some o4 =>
                      rw [c4] at hl
                      cases o4 with
                      | error c => cases hl; rfl
                      | ok ys =>
                        cases hl
                        rw [bnd_ok, List.append_assoc]
                        rfl
              | false =>
                refine iteF ?_
                simp only at hl
                have xx : Ext (F.plus (· = p)) H' H5 := x3.trans x5
                have nmu : ¬ F.mu p := fun z => nbp (.inl (F.sub p z))
                exact ⟨hlt, x2.trans (ext_plus.mp xx), acc, es, xx.keep p _ nmu hp1, dps_mono (hp_ext xx) hd, by omega, hl⟩
      · have ei : i = ds.length := by omega
        subst ei
        rw [List.drop_length] at hl
        cases hl
        rw [List.append_nil] at k
        refine .inl ⟨it.stop H' sz, k _ _ H' rfl (x1.trans x2) (.lst (Rd.of (hp_some.mpr ⟨nbp, hp1⟩)) (dps_mono hp_plus hd))⟩
    · rw [if_neg cl] at e2; cases e2
  · subst e2
    exact hi.go hh e1 er.to fun d v H' q => nomatch q⟩
section
variable {F : Fx} {E : XK} {X : Cx} {fr : Bool} {elt tg iter : Expr} {ifs : List Expr} {scope : Scope} (own : List (Str × Nat)) {pos : Pos} {wi : TI} {ri : RA} {rg : RG} {rt : RT} {re : RE}
theorem de_lcX (hc : X.calm = true) (hN : X.N.Nodup) (tk : Takes X (fun cls d _ H => E cls d H)) (hi : DI F E X tg iter wi ri) (ok : BlkOk X.N X.env.scope scope own)
    (hg : ∀ (s : Shared) (H : Hp) (C : Addr) (cl : List (Str × Addr)) (fp : List Addr) (B : Addr → Prop), ∃ g, DG (F.plus B) (X.blk s H scope (compEnvC scope cl C X.env) fp) tg g rg (own.map (·.2)))
    (ht : ∀ (s : Shared) (H : Hp) (C : Addr) (cl : List (Str × Addr)) (fp : List Addr) (B : Addr → Prop), ∃ tt, DTs (F.plus B) E0 (X.blk s H scope (compEnvC scope cl C X.env) fp) ifs tt rt)
    (he : ∀ (s : Shared) (H : Hp) (C : Addr) (cl : List (Str × Addr)) (fp : List Addr) (B : Addr → Prop), ∃ te, DE (F.plus B) E (blkX X E s H scope (compEnvC scope cl C X.env) fp) fr elt te re)
    (hs0 : X.stack = X.env :: X.outer := by rfl) (hf0 : X.env.frame = some X.env.locals := by rfl) (hs : ∀ x, foldedSetIterable iter X.env x = pure x := by intro _; rfl) :
    DE F E X fr (.ListComp elt [⟨tg, iter, ifs, 0⟩] scope pos) (tLc wi (canG X.K F rg (own.map (·.2))) (canT X.K F E0 rt) (canE X.K F E fr re) (own.map (·.2))) (rLcX ri rg rt re (own.map (·.2))) :=
  ⟨pe_lcX hc hN tk hs0 hf0 hi.run ok (fun s H C cl fp => can_pg (X := X.blk s H scope (compEnvC scope cl C X.env) fp) (hg s H C cl fp)) (fun s H C cl fp => can_pt (X := X.blk s H scope (compEnvC scope cl C X.env) fp) (ht s H C cl fp)) (fun s H C cl fp => can_pe (X := blkX X E s H scope (compEnvC scope cl C X.env) fp) (he s H C cl fp)) hs,
    se_lcX hi.snd (fun B => can_sg) (fun B => can_st) (fun B => can_se)⟩
end
theorem rLcX_ap (ri : RA) (rg : RG) (rt : RT) (re : RE) (vs : List Nat) (ρ : En) : rLcX ri rg rt re vs ρ = bnd (ri ρ) fun ds => if ds.length ≤ 1000000 ∧ vs.all (noOwn ρ) = true then bnd (lcX rg rt re (wipeR ρ vs) ds) (fun es => some (.ok (.list es))) else none := rfl
theorem lcX_of {rg : RG} {rt : RT} {re : RE} {ρ : En} : ∀ {ds es : List D}, lcL rg rt re ρ ds = some es → lcX rg rt re ρ ds = some (.ok es)
  | [], es, h => by cases h; rfl
  | d :: ds, es, h => by
    unfold lcL at h
    unfold lcX
    cases c1 : rg d ρ with
    | none => rw [c1] at h; cases h
    | some ρ1 =>
      simp only [c1] at h ⊢
      cases c2 : rt ρ1 with
      | none => rw [c2] at h; cases h
      | some o2 =>
        simp only [c2] at h ⊢
        cases o2 with
        | error c => cases h
        | ok b =>
          cases b with
          | false => exact lcX_of h
          | true =>
            simp only at h ⊢
            cases c3 : re ρ1 with
            | none => rw [c3] at h; cases h
            | some o3 =>
              simp only [c3] at h ⊢
              cases o3 with
              | error c => cases h
              | ok y =>
                simp only at h
                cases c4 : lcL rg rt re ρ ds with
                | none => rw [c4] at h; cases h
                | some ys =>
                  rw [c4] at h
                  cases h
                  rw [bnd_ok, lcX_of c4, bnd_ok]
/-- what a comprehension that may raise gives where it raises nothing -/
theorem rLcX_of {ri : RA} {rg : RG} {rt : RT} {re : RE} {vs : List Nat} {ρ : En} {d : D} (h : rLc ri rg rt re vs ρ = some (.ok d)) : rLcX ri rg rt re vs ρ = some (.ok d) := by
  rw [rLc_ap] at h
  rw [rLcX_ap]
  cases c : ri ρ with
  | none => rw [c] at h; cases h
  | some o =>
    rw [c] at h
    cases o with
    | error c => cases h
    | ok ds =>
      rw [bnd_ok] at h ⊢
      split at h
      · rename_i cc
        rw [if_pos cc]
        split at h
        · rename_i es q
          cases h
          rw [lcX_of q, bnd_ok]
        · cases h
      · cases h
end DL
set_option Elab.async false
set_option linter.all false
set_option maxRecDepth 100000
set_option maxHeartbeats 2000000
/-! sorted(set(texts)). -/
namespace DL
open PySem PySem.Spec L2 PyProof.Rows
def txOf (e : Int × Value) : Str := match e.2 with
  | .str x _ => x
  | _ => Str.empty
def TxE (w : World) (e : Int × Value) : Prop := ∃ x tk, e.2 = Value.str x tk ∧ e.1 = hashStr w x
/-- a set of texts, walkable -/
structure TxSet (w : World) (h : Heap) (a : Addr) (M : Str → Prop) (es : Array (Int × Value)) (ep : Nat) (t : SetTable) (o : Obj) : Prop where
  at_ : h.get? a = some o
  ex : o.ExactSet
  dt : o.data = .set es ep t
  tx : ∀ e ∈ es.toList, TxE w e
  nd : (es.toList.map txOf).Nodup
  mem : ∀ x, M x ↔ x ∈ es.toList.map txOf
  few : es.size < scanBound
  fit : t.fits es.size = true
  ris : Ris t.place.toList
  led : w.params.followText "set-order" = true ∨ t.led = true
def TxS (w : World) (h : Heap) (a : Addr) (M : Str → Prop) (n : Nat) : Prop := ∃ es ep t o, TxSet w h a M es ep t o ∧ es.size ≤ n
theorem TxS.go {w : World} {h h' : Heap} {a : Addr} {M : Str → Prop} {n : Nat} (R : TxS w h a M n) (k : ∀ o, h.get? a = some o → h'.get? a = some o) : TxS w h' a M n := by
  obtain ⟨es, ep, t, o, r, l⟩ := R
  exact ⟨es, ep, t, o, ⟨k o r.at_, r.ex, r.dt, r.tx, r.nd, r.mem, r.few, r.fit, r.ris, r.led⟩, l⟩
theorem TxS.iff {w : World} {h : Heap} {a : Addr} {M M' : Str → Prop} {n : Nat} (R : TxS w h a M n) (e : ∀ x, M' x ↔ M x) : TxS w h a M' n := by
  obtain ⟨es, ep, t, o, r, l⟩ := R
  exact ⟨es, ep, t, o, ⟨r.at_, r.ex, r.dt, r.tx, r.nd, fun x => (e x).trans (r.mem x), r.few, r.fit, r.ris, r.led⟩, l⟩
section
variable {P : Program} {w : World} {A : Around} {E : Value → Shared → Prop} {s : Shared} {a : Addr}
abbrev sK (P : Program) (w : World) := PySem.strKind P w
theorem tx_el {l : List (Int × Value)} (g : ∀ e ∈ l, TxE w e) : ElemsOf (sK P w) l := fun e he => by
  obtain ⟨x, tk, q1, q2⟩ := g e he
  exact ⟨⟨x, by rw [q1]; exact strKind_is P w x tk, q2⟩, by rw [q1] <;> rfl⟩
theorem tx_is {e : Int × Value} (g : TxE w e) (x : Str) : (sK P w).is x e.2 = true ↔ txOf e = x := by
  obtain ⟨y, tk, q1, _⟩ := g
  unfold txOf
  rw [q1]
  constructor
  · intro z
    obtain ⟨t, ht⟩ := Value.isStrOf_shape (show Value.isStrOf x (.str y tk) = true from z)
    injection ht
  · intro z
    rw [← z]
    exact strKind_is P w y tk
theorem tx_mem {l : List (Int × Value)} (g : ∀ e ∈ l, TxE w e) (x : Str) : x ∈ l.map txOf ↔ ∃ e ∈ l, (sK P w).is x e.2 = true := by
  rw [List.mem_map]
  exact ⟨fun ⟨e, he, q⟩ => ⟨e, he, (tx_is (g e he) x).mpr q⟩, fun ⟨e, he, q⟩ => ⟨e, he, (tx_is (g e he) x).mp q⟩⟩
/-- the table is stored, perhaps laid anew -/
theorem tx_tail {g : Bool → Sem Unit} (hg : ∀ (b : Bool) (s₁ : Shared) (Q' : Unit → Shared → Prop), Q' () s₁ → wpAny (model P w) A (g b) Q' E s₁) {o : Obj} {es es1 : Array (Int × Value)} {ep : Nat} {t t2 : SetTable} {M : Str → Prop} {wd : Bool} {R : Option Bool → Shared → Prop}
    (ho : s.heap.get? a = some o) (hex : o.ExactSet) (hd : o.data = .set es ep t) (g1 : ∀ e ∈ es1.toList, TxE w e) (n1 : (es1.toList.map txOf).Nodup) (m1 : ∀ x, M x ↔ x ∈ es1.toList.map txOf) (b1 : es1.size < scanBound) (f2 : t2.fits es1.size = true)
    (r2 : Ris t2.place.toList) (l2 : w.params.followText "set-order" = true ∨ t2.led = true) (hR : ∀ h', Heap.SameBut a s.heap h' → TxS w h' a M es1.size → R (some true) { s with heap := h' }) :
    wpAny (model P w) A (do
        storeSet a es1 t2
        if (!wd && t2.tooFull) = true then do
            g (relayAll t2 es1 (SetTable.grown es1.size)).2.2
            storeSet a (relayAll t2 es1 (SetTable.grown es1.size)).1 (relayAll t2 es1 (SetTable.grown es1.size)).2.1
            pure (some true)
          else pure (some true)) R E s := by
  refine wpAny_bind (wpAny_storeSet_of ho hd ?_ (fits_of_scanBound b1))
  have o1 := store_at (es' := es1) (t' := t2) ho hd
  have k1 := Heap.SameBut.update s.heap a (Obj.putSet es1 t2)
  by_cases c : (!wd && t2.tooFull) = true
  · rw [if_pos c]
    have pm := relayAll_perm t2 es1 (SetTable.grown es1.size)
    have f3 := relayAll_fits t2 es1 (SetTable.grown es1.size)
    have r3 := relayAll_ris t2 es1 (SetTable.grown es1.size)
    have l3 := relayAll_led t2 es1 (SetTable.grown es1.size)
    generalize relayAll t2 es1 (SetTable.grown es1.size) = N at pm f3 r3 l3 ⊢
    obtain ⟨es2, t3, gv⟩ := N
    dsimp only at pm f3 r3 l3 ⊢
    have sz : es2.size = es1.size := by rw [← Array.length_toList, pm.length_eq, Array.length_toList]
    have b2 : es2.size < scanBound := by rw [sz]; exact b1
    refine wpAny_bind (hg _ _ _ (wpAny_bind (wpAny_storeSet_of o1 rfl ?_ (fits_of_scanBound b2))))
    have o2 := store_at (es' := es2) (t' := t3) o1 rfl
    refine wpAny_pure (hR _ (k1.trans (Heap.SameBut.update _ a _)) ⟨es2, _, t3, _, ⟨o2, hex, rfl, fun e he => g1 e (pm.mem_iff.mp he), (pm.map txOf).nodup_iff.mpr n1, fun x => (m1 x).trans (pm.map txOf).mem_iff.symm, b2, f3, r3, l2.imp id fun z => by rw [l3]; exact z⟩, Nat.le_of_eq sz⟩)
  · rw [if_neg c]
    exact wpAny_pure (hR _ k1 ⟨es1, _, t2, _, ⟨o1, hex, rfl, g1, n1, m1, b1, f2, r2, l2⟩, Nat.le_refl _⟩)
theorem tx_add {x : Str} {tk : Tok} {M : Str → Prop} {n : Nat} {Q : Bool → Shared → Prop} (R : TxS w s.heap a M n) (room : n + 1 < scanBound)
    (hQ : ∀ b h', Heap.SameBut a s.heap h' → TxS w h' a (fun y => M y ∨ y = x) (n + 1) → Q b { s with heap := h' }) : wpAny (model P w) A (setAddHashed a (.str x tk) ((sK P w).hash x)) Q E s := by
  obtain ⟨es, ep, t, o, r, ln⟩ := R
  have key : (sK P w).is x (.str x tk) = true := strKind_is P w x tk
  have sc : (Value.str x tk).scannable = true := rfl
  have el : ElemsOf (sK P w) es.toList := tx_el r.tx
  unfold setAddHashed setAddHashedIn
  refine wpAny_holding (wpAny_bind (wpAny_setState_of r.at_ r.dt r.fit ?_))
  dsimp only
  rw [byScan_of sc r.few el]
  simp only [↓reduceIte]
  unfold setAddByScan
  refine wpAny_bind (wpAny_bind (wpAny_rule (wpAny_bind (wpAny_setScan_of key r.at_ r.dt r.fit el ?_))))
  cases q0 : List.findIdx? (fun e => (sK P w).is x e.2) es.toList with
  | some j =>
    dsimp only
    obtain ⟨hj, pj, _⟩ := List.findIdx?_eq_some_iff_getElem.mp q0
    have hx : M x := (r.mem x).mpr ((tx_mem (P := P) r.tx x).mpr ⟨es.toList[j], List.getElem_mem hj, pj⟩)
    refine wpAny_pure (wpAny_pure (hQ _ s.heap (Heap.SameBut.refl a s.heap) ⟨es, ep, t, o, ⟨r.at_, r.ex, r.dt, r.tx, r.nd, fun y => ?_, r.few, r.fit, r.ris, r.led⟩, Nat.le_succ_of_le ln⟩))
    rw [← r.mem y]
    exact ⟨fun z => z.elim id fun e => e ▸ hx, .inl⟩
  | none =>
    dsimp only
    have nx : x ∉ es.toList.map txOf := fun z => by
      obtain ⟨e, he, q⟩ := (tx_mem (P := P) r.tx x).mp z
      have c := List.findIdx?_eq_none_iff.mp q0 e he
      rw [q] at c
      cases c
    have way : ∀ (b : Bool) {s₁ : Shared} {Q' : Unit → Shared → Prop}, Q' () s₁ → wpAny (model P w) A (match b with | true => rule "set.scan.the-table-gave-way" | false => pure ()) Q' E s₁ := fun b s₁ Q' q => by
      cases b
      · exact wpAny_pure q
      · exact wpAny_rule q
    have pm := layNew_perm t es ((sK P w).hash x) (.str x tk)
    have f1 := layNew_fits t es ((sK P w).hash x) (.str x tk)
    have r1 := layNew_ris t es ((sK P w).hash x) (.str x tk) r.ris
    have l1 := layNew_led t es ((sK P w).hash x) (.str x tk)
    generalize layNew t es ((sK P w).hash x) (.str x tk) = N at pm f1 r1 l1 ⊢
    obtain ⟨es1, t1, wd, gv⟩ := N
    dsimp only at pm f1 r1 l1 ⊢
    rw [Array.toList_push] at pm
    have pc : es1.toList.Perm (((sK P w).hash x, Value.str x tk) :: es.toList) := pm.trans (List.perm_append_singleton _ _)
    have pk : (es1.toList.map txOf).Perm (x :: es.toList.map txOf) := pc.map txOf
    have g1 : ∀ e ∈ es1.toList, TxE w e := fun e he => by
      rcases List.mem_cons.mp (pc.mem_iff.mp he) with rfl | z
      · exact ⟨x, tk, rfl, rfl⟩
      · exact r.tx e z
    have n1 : (es1.toList.map txOf).Nodup := pk.nodup_iff.mpr (List.nodup_cons.mpr ⟨nx, r.nd⟩)
    have m1 : ∀ y, (M y ∨ y = x) ↔ y ∈ es1.toList.map txOf := fun y => by
      rw [r.mem y, pk.mem_iff, List.mem_cons]
      exact Or.comm
    have sz : es1.size = es.size + 1 := by rw [← Array.length_toList, pc.length_eq, List.length_cons, Array.length_toList]
    have b1 : es1.size < scanBound := by omega
    have ld : w.params.followText "set-order" = true ∨ t1.led = true := r.led.imp id fun z => by rw [l1]; exact z
    have fin : ∀ b h', Heap.SameBut a s.heap h' → TxS w h' a (fun y => M y ∨ y = x) es1.size → Q b { s with heap := h' } := fun b h' sb z => by
      obtain ⟨e1, e2, e3, e4, e5, e6⟩ := z
      exact hQ b h' sb ⟨e1, e2, e3, e4, e5, by omega⟩
    refine wpAny_bind (way _ ?_)
    split
    · refine wpAny_bind ?_
      rw [hashByValue_scannable 8 sc]
      refine wpAny_pure ?_
      refine tx_tail ?_ r.at_ r.ex r.dt g1 n1 m1 b1 ?_ ?_ ?_ ?_
      · intro b s₁ Q' q
        cases b <;> first | exact wpAny_pure q | exact wpAny_rule q
      · first | (split <;> first | exact f1 | exact SetTable.fits_plain_off f1) | exact f1
      · first | (split <;> exact r1) | exact r1
      · first | (split <;> exact ld) | exact ld
      · intro h' sb z
        dsimp only
        exact wpAny_pure (fin _ h' sb z)
    · refine wpAny_bind (wpAny_pure ?_)
      simp only [↓reduceIte]
      refine tx_tail ?_ r.at_ r.ex r.dt g1 n1 m1 b1 f1 r1 ld ?_
      · intro b s₁ Q' q
        cases b <;> first | exact wpAny_pure q | exact wpAny_rule q
      · intro h' sb z
        dsimp only
        exact wpAny_pure (fin _ h' sb z)
/-- the loop of set(xs) -/
theorem tx_loop {I : Addr} {fp wr : List Addr} {G : Array GenState → Array GenState → Prop} {n : Nat} {Pv : Nat → Value → Prop} {St : Nat → Shared → Prop} {R : Result → Shared → Prop} (W : WalksS P w A.in1 I fp wr G n Pv St) (S : Addr) (hSf : S ∉ fp) (xs : List Str) (hn : n = xs.length) (hb : xs.length + 1 < scanBound)
    (hv : ∀ i v, Pv i v → ∃ k t, xs[i]? = some k ∧ v = .str k t) : ∀ (k i : Nat) (s : Shared), n - i = k → i ≤ n → St i s → TxS w s.heap S (fun y => y ∈ xs.take i) i →
      (∀ s', Moved (S :: wr) G s s' → TxS w s'.heap S (fun y => y ∈ xs) n → R (.ok (.ret .none)) s') → codeAny (model P w) A (.builtin "set.update.loop" ⟨[.ref S, .ref I], []⟩) R s := by
  have nw : S ∉ wr := fun z => hSf (W.sub _ z)
  have sub : ∀ b ∈ wr, b ∈ S :: wr := fun b z => List.mem_cons_of_mem _ z
  intro k
  induction k with
  | zero =>
    intro i s e0 hi st hS hR
    obtain rfl : i = n := by omega
    refine codeAny_builtin F.entry_set_update_loop ?_
    rw [Around.under_plainId F.plain_set_update_loop _]
    show wpAny _ A.in1 (pyNext (.ref I) >>= _) _ _ s
    refine wpAny_bind (W.done s _ _ st fun s' mv => ?_)
    show wpAny _ A.in1 (ret Value.none) _ _ s'
    rw [List.take_of_length_le (by omega)] at hS
    exact wpAny_pure (hR s' (mv.mono sub) (hS.go fun o e => mv.heap S o nw e))
  | succ k ih =>
    intro i s e0 hi st hS hR
    have lt : i < n := by omega
    refine codeAny_builtin F.entry_set_update_loop ?_
    rw [Around.under_plainId F.plain_set_update_loop _]
    show wpAny _ A.in1 (pyNext (.ref I) >>= _) _ _ s
    refine wpAny_bind (W.item i s _ _ lt st fun v s' hP st' mv => ?_)
    obtain ⟨z, t, hz, rfl⟩ := hv i v hP
    have hS1 : TxS w s'.heap S (fun y => y ∈ xs.take i) i := hS.go fun o e => mv.heap S o nw e
    show wpAny _ A.in1 (holding [Value.str z t] (setAdd S (.str z t)) >>= _) _ _ s'
    refine wpAny_bind (wpAny_holding ?_)
    unfold setAdd
    refine wpAny_holding (wpAny_bind ((sK P w).pyHash (k := z) (strKind_is _ _ _ _) ?_))
    refine tx_add (s := { s' with toks := s'.toks + 1 }) hS1 (by omega) fun b h' sb hS2 => ?_
    have hS3 : TxS w h' S (fun y => y ∈ xs.take (i + 1)) (i + 1) := hS2.iff fun y => by
      rw [List.take_add_one, hz]
      simp [List.mem_append]
    refine wpAny_pure ⟨plainId_quiet F.plain_set_update_loop _, ih (i + 1) _ (by omega) lt (W.frame _ s' _ _ st' (Nat.le_succ _) fun b hb o e => ?_) hS3 fun s'' mv2 hS4 => ?_⟩
    · rw [sb.2 b (fun q : b = S => hSf (q ▸ hb))]; exact e
    · refine hR s'' (Moved.trans W.gtrans ((mv.mono sub).then_heap (Nat.le_succ _) fun b o hb e => ?_) mv2) hS4
      rw [sb.2 b (fun q : b = S => hb (by rw [q]; exact List.mem_cons_self))]; exact e
end
theorem strs_val : ∀ {us : List Value} {xs : List Str} {i : Nat} {v : Value}, StrsAre us xs → us[i]? = some v → ∃ k t, xs[i]? = some k ∧ v = .str k t
  | _, _, _, _, .nil, e => by simp at e
  | _, _, 0, _, .cons y t _, e => ⟨y, t, rfl, by simpa using e.symm⟩
  | _, _, i + 1, _, .cons _ _ r, e => by simpa using strs_val (i := i) r (by simpa using e)
/-- the new set -/
abbrev nset (w : World) : Obj := { cls := .type "set", dict := none, data := .set #[] 0 (.fresh 0 0 (!w.params.followText "set-order")) }
theorem tx_new {w : World} {h : Heap} {a : Addr} {xs : List Str} (ho : h.get? a = some (nset w)) : TxS w h a (fun y => y ∈ xs.take 0) 0 :=
  ⟨#[], 0, _, _, ⟨ho, ⟨rfl, rfl, rfl⟩, rfl, (fun e he => by simp at he), (by simp), (fun k => by simp), (by decide), (by rfl), List.Pairwise.nil, by
    show _ ∨ (!w.params.followText "set-order") = true
    cases w.params.followText "set-order"
    · exact .inr rfl
    · exact .inl rfl⟩, Nat.le_refl 0⟩
section
variable {P : Program} {w : World} {A : Around} {E : Value → Shared → Prop} {s : Shared}
set_option maxHeartbeats 3200000 in
theorem tx_call {l : Addr} {items : Array Value} (xs : List Str) {Q : Value → Shared → Prop} (hh : A.handled = none) (hl : s.heap.IsList l items) (hit : StrsAre items.toList xs) (hb : xs.length + 1 < scanBound)
    (h : ∀ (h' : Heap) (tk : Nat), TxS w h' s.heap.objs.size (fun y => y ∈ xs) xs.length → (∀ b o, s.heap.get? b = some o → h'.get? b = some o) → Q (.ref s.heap.objs.size) { s with heap := h', toks := tk }) :
    wpAny (model P w) A (call (.type "set") [.ref l]) Q E s := by
  have isz : items.size = xs.length := by
    have q := StrsAre.len_eq hit
    rw [Array.length_toList] at q
    exact q
  obtain ⟨c, tl, hmro⟩ := F.called_set.mro
  have hmade := F.called_set.made
  have hsub := F.called_set.sub
  refine wpAny_call (codeAny_of_tree ?_)
  show wpAny _ _ (callAny (.type "set") _) _ _ _
  refine wpAny_pure ⟨Code.quiet_builtin _ (by decide +kernel), codeAny_builtin F.entry_type_call ?_⟩
  rw [Around.under_plain (weight_type_call_type "set" [.ref l] []) rfl]
  have h1 := F.called_set.notType
  have h2 := F.called_set.canCreate
  have hct := F.typeCall_set_1 (.ref l)
  repeat (any_goals (first | assumption | wp_step))
  refine codeAny_mono (code_set_led1 (.ref l) (E := E) (Q₁ := fun ob s₁ => ob = .ref s.heap.objs.size ∧ s₁ = { s with heap := s.heap.push (nset w) }) ⟨rfl, rfl⟩) fun r s₁ hr => ?_
  cases r with
  | error e => exact hr
  | ok fl =>
    cases fl with
    | ret ob =>
      obtain ⟨rfl, rfl⟩ := hr
      have hS : (s.heap.push (nset w)).get? s.heap.objs.size = some (nset w) := Heap.get?_push_size _ rfl
      have hT : Shared.TypeIs { s with heap := s.heap.push (nset w) } (.ref s.heap.objs.size) "set" := ⟨_, hS, rfl⟩
      have hli := F.called_set.init.lookup
      have hbi := F.called_set.init.bind (.ref s.heap.objs.size)
      repeat (any_goals (first | assumption | wp_step))
      refine codeAny_mono (codeAny_call_builtin (R := wants (fun r s₂ => r = .none ∧ ∃ h' tk, s₂ = { s with heap := h', toks := tk } ∧ TxS w h' s.heap.objs.size (fun y => y ∈ xs) xs.length ∧ (∀ b o, s.heap.get? b = some o → h'.get? b = some o)) E)
        F.called_set.init.plain F.entry_set_init (check_set_init_1 hT ?_)) fun r₂ s₂ hr₂ => ?_
      · obtain ⟨⟨ocls, odict, odata, oslots⟩, hol, hcl, nl, hdl⟩ := hl
        simp only at hcl hdl
        subst hcl hdl
        have hol' : (s.heap.push (nset w)).get? l = some { cls := .type "list", dict := odict, data := .seq items nl, slots := oslots } := Heap.get?_push_of_some _ hol
        have hsls := PySem.F.sub_list_set
        have hslf := PySem.F.sub_list_frozenset
        have hne : (Value.type "list" == Value.type "dict") = false := by decide
        have hl1 : (s.heap.push (nset w)).IsList l items := ⟨_, hol', rfl, nl, rfl⟩
        unfold Builtin.«set.__init__» noKeywords Builtin.Frozenset.updateFrom
        generalize hPI : pyIter = PI
        wp_walk
        subst hPI
        refine wpAny_pyIter_list hl1 (wpAny_bind (wpAny_runValue ?_))
        have lS : l < s.heap.objs.size := Heap.lt_size hol
        have hh3 : A.in1.in1.in1.handled = none := by simp [hh]
        have neI : l ≠ (s.heap.push (nset w)).objs.size := by
          rw [Heap.size_push]; exact Nat.ne_of_lt (Nat.lt_succ_of_lt lS)
        have nf : s.heap.objs.size ∉ [(s.heap.push (nset w)).objs.size, l] := by
          rw [Heap.size_push]
          simp only [List.mem_cons, List.mem_singleton, List.not_mem_nil, or_false, not_or]
          exact ⟨Nat.ne_of_lt (Nat.lt_succ_self _), Nat.ne_of_gt lS⟩
        have val : ∀ (i : Nat) (v : Value), items[i]? = some v → ∃ k t, xs[i]? = some k ∧ v = .str k t := fun i v hv => strs_val hit (by rw [Array.getElem?_toList]; exact hv)
        refine tx_loop ((Walks.list hh3 _ l neI items).toS) s.heap.objs.size nf xs isz hb val (items.size - 0) 0 _ (by omega) (Nat.zero_le _) ⟨⟨_, Heap.get?_push_size _ rfl, rfl, rfl⟩, (hl1.push _)⟩ (tx_new (Heap.get?_push_of_some _ hS)) ?_
        intro s' mv hS'
        obtain ⟨h', g2, d', tk', os'⟩ := s'
        obtain rfl : g2 = s.gens := mv.gens
        obtain rfl : d' = s.drawn := mv.drawn
        obtain rfl : os' = s.os := mv.os
        show wpAny _ _ _ _ _ _
        refine wpAny_pure ?_
        show wpAny _ _ (ret Value.none) _ _ _
        rw [isz] at hS'
        refine wpAny_pure ⟨rfl, h', tk', rfl, hS', fun b o e => ?_⟩
        have b0 : b < s.heap.objs.size := Heap.lt_size e
        have b2 : b ≠ (s.heap.push (nset w)).objs.size := by
          rw [Heap.size_push]; exact Nat.ne_of_lt (Nat.lt_succ_of_lt b0)
        exact mv.heap b o (by simp only [List.mem_cons, List.mem_singleton, List.not_mem_nil, or_false, not_or]; exact ⟨Nat.ne_of_lt b0, b2⟩) (Heap.get?_push_of_some _ (Heap.get?_push_of_some _ e))
      · cases r₂ with
        | error e => exact hr₂
        | ok fl₂ =>
          cases fl₂ with
          | ret r =>
            obtain ⟨rfl, h', tk, rfl, hS', hk'⟩ := hr₂
            repeat (any_goals (first | assumption | wp_step))
            exact h _ _ hS' hk'
          | _ => exact hr₂.elim
    | _ => exact hr.elim
theorem txs_of : ∀ (l : List Value), (∀ v ∈ l, ∃ x tk, v = Value.str x tk) → StrsAre l (l.map fun v => txOf (0, v))
  | [], _ => .nil
  | v :: l, h => by
    obtain ⟨x, tk, rfl⟩ := h v List.mem_cons_self
    exact .cons x tk (txs_of l fun u hu => h u (List.mem_cons_of_mem _ hu))
theorem tx_sorted {a : Addr} {M : Str → Prop} {n : Nat} {Q : Value → Shared → Prop} (R : TxS w s.heap a M n) (hh : A.handled = none) (h64 : n < 64)
    (hQ : ∀ s' p (out : Array Value) (c : Nat) (ys : List Str), (∀ b o, s.heap.get? b = some o → s'.heap.get? b = some o) → s'.gens = s.gens → s'.os = s.os → s.heap.objs.size ≤ p →
      s'.heap.get? p = some (seqObj "list" out c) → StrsAre out.toList ys → sortedS ys = true → ys.Nodup → (∀ x, x ∈ ys ↔ M x) → ys.length ≤ n → Q (.ref p) s') :
    wpAny (model P w) A (call (.builtin "sorted") [.ref a]) Q E s := by
  obtain ⟨es, ep, t, o, r, ln⟩ := R
  refine Calls.call_function_entry kind_sorted plain_sorted entry_sorted (args_sorted1 _) ?_
  unfold Builtin.«sorted»
  refine wpAny_bind (m := checkCount "sorted" 1 1 _) (wpAny_pure (wpAny_bind (collect_set (A := A.in1) hh ⟨o, r.at_, r.ex.1, r.dt⟩ r.fit r.few r.ris r.led fun s1 vs k1 hz g1 o1 pm => ?_)))
  have vl : vs.length = es.size := by rw [pm.length_eq, List.length_map, Array.length_toList]
  have hS : StrsAre vs (vs.map fun v => txOf (0, v)) := txs_of vs fun v hv => by
    obtain ⟨e, he, q⟩ := List.mem_map.mp (pm.mem_iff.mp hv)
    obtain ⟨x, tk, z, _⟩ := r.tx e he
    exact ⟨x, tk, by rw [← q]; exact z⟩
  have pk : (vs.map fun v => txOf (0, v)).Perm (es.toList.map txOf) := by
    have q := pm.map fun v => txOf (0, v)
    rw [List.map_map] at q
    exact q
  refine wpAny_bind (wpAny_newList ?_ (by rw [vl, sizeLine_eq]; omega))
  have hoL : (s1.heap.push (seqObj "list" vs.toArray 0)).get? s1.heap.objs.size = some (seqObj "list" vs.toArray 0) := Heap.get?_push_size _ rfl
  refine wpAny_bind (wpAny_holding (wpAny_call_entry slot_list_sort ⟨_, hoL, rfl⟩ entry_list_sort
    (list_sort_treeK strKind_oneLt hoL hS.keysOf (fun v₁ v₂ rest e => keyKind_strs (by rw [← e]; exact hS)) (by omega) fun st' hp hs => ⟨_, rfl, ?_⟩) (args_list_sort _)))
  obtain ⟨ys, y1, y2, y3⟩ := sorted_out_str hS hp hs
  obtain ⟨c, hc⟩ := sortedHeap_at (vs := vs) (out := (arrOf st').map (·.2)) hoL
  have pn : ys.Perm (es.toList.map txOf) := y2.trans pk
  refine wpAny_pure ⟨_, rfl, hQ _ s1.heap.objs.size _ c ys (fun b u e => ?_) g1 o1 hz hc y1 y3 (pn.nodup_iff.mpr r.nd) (fun x => by rw [pn.mem_iff, ← r.mem x]) (by rw [pn.length_eq, List.length_map, Array.length_toList]; exact ln)⟩
  have q := k1 b u e
  have lt := Heap.lt_size q
  show (sortedHeap (s1.heap.push (seqObj "list" vs.toArray 0)) s1.heap.objs.size vs _).get? b = some u
  rw [sortedHeap_old (Nat.ne_of_lt lt) (by rw [size_push']; exact Nat.lt_succ_of_lt lt)]
  exact Heap.get?_push_of_some _ q
end
end DL
set_option Elab.async false
set_option linter.all false
set_option maxRecDepth 100000
namespace DL
open PySem PySem.Spec L2 PyProof.Rows
/-! texts in order, each once -/
def ltT (a b : Str) : Prop := a.cps.toList < b.cps.toList
instance : DecidableRel ltT := fun a b => inferInstanceAs (Decidable (a.cps.toList < b.cps.toList))
theorem ltT_irrefl (a : Str) : ¬ ltT a a := List.lt_irrefl a.cps.toList
theorem ltT_trans {a b c : Str} (h : ltT a b) (k : ltT b c) : ltT a c := List.lt_trans h k
theorem str_ext {a b : Str} (h : a.cps.toList = b.cps.toList) : a = b := by
  cases a; cases b
  congr 1
  exact Array.ext' h
theorem ltT_tri (a b : Str) : ltT a b ∨ a = b ∨ ltT b a := by
  by_cases h : ltT a b
  · exact .inl h
  · by_cases k : ltT b a
    · exact .inr (.inr k)
    · exact .inr (.inl (str_ext (List.le_antisymm (List.not_lt.mp k) (List.not_lt.mp h))))
def insT (x : Str) : List Str → List Str
  | [] => [x]
  | y :: ys => if x = y then y :: ys else if ltT x y then x :: y :: ys else y :: insT x ys
def srtT : List Str → List Str
  | [] => []
  | x :: xs => insT x (srtT xs)
theorem insT_mem {x z : Str} : ∀ {ys : List Str}, z ∈ insT x ys ↔ z = x ∨ z ∈ ys
  | [] => by simp [insT]
  | y :: ys => by
    unfold insT
    split
    · rename_i e; subst e; simp
    · split
      · simp
      · rw [List.mem_cons, insT_mem, List.mem_cons]
        exact ⟨fun h => by rcases h with h | h | h <;> simp [h], fun h => by rcases h with h | h | h <;> simp [h]⟩
theorem srtT_mem {z : Str} : ∀ {xs : List Str}, z ∈ srtT xs ↔ z ∈ xs
  | [] => by simp [srtT]
  | x :: xs => by rw [srtT, insT_mem, srtT_mem, List.mem_cons]
theorem insT_pw {x : Str} : ∀ {ys : List Str}, ys.Pairwise ltT → (insT x ys).Pairwise ltT
  | [], _ => by simp [insT]
  | y :: ys, h => by
    obtain ⟨h1, h2⟩ := List.pairwise_cons.mp h
    unfold insT
    split
    · exact h
    · rename_i ne
      split
      · rename_i lt
        exact List.pairwise_cons.mpr ⟨fun z hz => by
          rcases List.mem_cons.mp hz with rfl | hz
          · exact lt
          · exact ltT_trans lt (h1 z hz), h⟩
      · rename_i nlt
        refine List.pairwise_cons.mpr ⟨fun z hz => ?_, insT_pw h2⟩
        rcases insT_mem.mp hz with rfl | hz
        · rcases ltT_tri y z with q | q | q
          · exact q
          · exact absurd q.symm ne
          · exact absurd q nlt
        · exact h1 z hz
theorem srtT_pw : ∀ xs : List Str, (srtT xs).Pairwise ltT
  | [] => List.Pairwise.nil
  | x :: xs => insT_pw (srtT_pw xs)
/-- there is one such list -/
theorem pw_uniq : ∀ {xs ys : List Str}, xs.Pairwise ltT → ys.Pairwise ltT → (∀ z, z ∈ xs ↔ z ∈ ys) → xs = ys
  | [], [], _, _, _ => rfl
  | [], y :: ys, _, _, h => absurd ((h y).mpr List.mem_cons_self) (by simp)
  | x :: xs, [], _, _, h => absurd ((h x).mp List.mem_cons_self) (by simp)
  | x :: xs, y :: ys, hx, hy, h => by
    obtain ⟨x1, x2⟩ := List.pairwise_cons.mp hx
    obtain ⟨y1, y2⟩ := List.pairwise_cons.mp hy
    have e : x = y := by
      have a := (h x).mp List.mem_cons_self
      have b := (h y).mpr List.mem_cons_self
      rcases List.mem_cons.mp a with a | a
      · exact a
      · rcases List.mem_cons.mp b with b | b
        · exact b.symm
        · exact absurd (ltT_trans (x1 y b) (y1 x a)) (ltT_irrefl x)
    subst e
    rw [pw_uniq x2 y2 fun z => ?_]
    have := h z
    simp only [List.mem_cons] at this
    constructor
    · intro hz
      rcases this.mp (.inr hz) with e | e
      · subst e; exact absurd (x1 z hz) (ltT_irrefl z)
      · exact e
    · intro hz
      rcases this.mpr (.inr hz) with e | e
      · subst e; exact absurd (y1 z hz) (ltT_irrefl z)
      · exact e
theorem rising_pw : ∀ {p : Str} {l : List Str}, risingS p l = true → (p :: l).Nodup → (p :: l).Pairwise ltT
  | p, [], _, _ => by simp
  | p, x :: r, h, nd => by
    simp only [risingS, Bool.and_eq_true, Bool.not_eq_true'] at h
    obtain ⟨n1, n2⟩ := List.nodup_cons.mp nd
    have ih := rising_pw h.2 n2
    have lt : ltT p x := by
      have q := h.1
      rw [ltCps_eq] at q
      rcases ltT_tri p x with z | z | z
      · exact z
      · subst z; simp at n1
      · exact absurd z (of_decide_eq_false q)
    refine List.pairwise_cons.mpr ⟨fun z hz => ?_, ih⟩
    rcases List.mem_cons.mp hz with rfl | hz
    · exact lt
    · exact ltT_trans lt ((List.pairwise_cons.mp ih).1 z hz)
theorem sorted_srt {zs ys : List Str} (h : sortedS zs = true) (nd : zs.Nodup) (m : ∀ x, x ∈ zs ↔ x ∈ ys) : zs = srtT ys := by
  refine pw_uniq ?_ (srtT_pw ys) fun z => (m z).trans srtT_mem.symm
  cases zs with
  | nil => exact List.Pairwise.nil
  | cons x r => exact rising_pw h nd
theorem insT_len (x : Str) : ∀ ys : List Str, (insT x ys).length ≤ ys.length + 1
  | [] => by simp [insT]
  | y :: ys => by
    unfold insT
    have := insT_len x ys
    split
    · simp
    · split
      · simp
      · simp; omega
theorem srtT_len : ∀ xs : List Str, (srtT xs).length ≤ xs.length
  | [] => Nat.le_refl _
  | x :: xs => by
    have a := insT_len x (srtT xs)
    have b := srtT_len xs
    simp only [srtT, List.length_cons]
    omega
theorem nodupS_le {α : Type} [DecidableEq α] : ∀ {l m : List α}, l.Nodup → (∀ a ∈ l, a ∈ m) → l.length ≤ m.length
  | [], m, _, _ => Nat.zero_le _
  | a :: l, m, nd, h => by
    obtain ⟨n1, n2⟩ := List.nodup_cons.mp nd
    have ha := h a List.mem_cons_self
    have := nodupS_le (l := l) (m := m.erase a) n2 fun b hb => (List.mem_erase_of_ne fun e => n1 (by rw [← e]; exact hb)).mpr (h b (List.mem_cons_of_mem _ hb))
    rw [List.length_erase_of_mem ha] at this
    have : 0 < m.length := List.length_pos_of_mem ha
    rw [List.length_cons]
    omega
/-- it holds no more than there are unlike ones -/
theorem TxS.less {w : World} {h : Heap} {a : Addr} {ys : List Str} {n : Nat} (R : TxS w h a (fun y => y ∈ ys) n) : TxS w h a (fun y => y ∈ ys) (srtT ys).length := by
  obtain ⟨es, ep, t, o, r, _⟩ := R
  refine ⟨es, ep, t, o, r, ?_⟩
  have := nodupS_le r.nd fun x hx => srtT_mem.mpr ((r.mem x).mpr hx)
  rw [List.length_map, Array.length_toList] at this
  exact this
/-! the rules -/
def TxO (w : World) (a : Addr) (ys : List Str) : HO := .ext fun h => TxS w h a (fun y => y ∈ ys) ys.length
section
variable {X : Cx}
def rSetS (K : PySem.W.Frag) (w : World) : List V → Hp → VK → Prop := fun xs H Q => ∃ (l : Addr) (ys : List Str), xs = [.ref l] ∧ SqL K H l (ys.map V.str) ∧ ys.length < 4000 ∧ ∀ p, H p = none → Q (.ref p) (upd H p (TxO w p ys))
theorem cr_setS (hc : X.calm = true) : CallR X (.type "set") (rSetS X.K X.w) := by
  intro pins s σ H xs us Q I r h
  obtain ⟨l, ys, rfl, hq, hl, q⟩ := h
  obtain ⟨u, rfl, rx⟩ := vals1 r
  cases rx
  obtain ⟨its, rv, pl, hz⟩ := I.list hq
  have hs := rv.strs
  refine tx_call ys (I.ok.hd hc) pl.isList (by simpa using hs) (by unfold scanBound; omega) fun h' tk R hk => ?_
  obtain ⟨es, ep, t, o, z, _⟩ := id R
  exact ⟨.ref s.heap.objs.size, upd H s.heap.objs.size (TxO X.w s.heap.objs.size ys), I.laid (t' := tk) hk (Nat.le_refl _) ⟨R, ⟨o, z.at_⟩, fun h1 h2 p k => p.go k⟩, rfl, q _ (I.hok.fresh (Nat.le_refl _))⟩
def rSortTx (w : World) : List V → Hp → VK → Prop := fun xs H Q => ∃ (a : Addr) (ys : List Str), xs = [.ref a] ∧ H a = some (TxO w a ys) ∧ (srtT ys).length < 60 ∧ ∀ p, H p = none → Q (.ref p) (upd H p (.lst ((srtT ys).map V.str)))
theorem cr_sortTx (hc : X.calm = true) : CallR X (.builtin "sorted") (rSortTx X.w) := by
  intro pins s σ H xs us Q I r h
  obtain ⟨a, ys, rfl, ha, hl, q⟩ := h
  obtain ⟨u, rfl, rx⟩ := vals1 r
  cases rx
  have R0 : TxS X.w s.heap a (fun y => y ∈ ys) ys.length := (I.hok a _ ha).1
  have R : TxS X.w s.heap a (fun y => y ∈ ys) (srtT ys).length := R0.less
  refine tx_sorted R (I.ok.hd hc) (by omega) fun s' p out c zs k g o hp hg hS so nd hm hn => ?_
  obtain rfl := sorted_srt so nd hm
  have hlen : ((srtT ys).map V.str).length ≤ sizeLine := by
    rw [List.length_map, sizeLine_eq]
    omega
  have np : H p = none := I.hok.fresh hp
  have J : Inv X pins σ (upd H p (.lst ((srtT ys).map V.str))) { s with heap := s'.heap, gens := s'.gens, drawn := s'.drawn, toks := s'.toks } :=
    I.call (ch := []) (Un.laid k hp np) (I.hok.laid k hp ⟨hlen, out.toList, c, vals_of_strs hS, hg⟩) (by rw [g]; exact I.bare) (fun _ z => nomatch z)
  have e : s' = { s with heap := s'.heap, gens := s'.gens, drawn := s'.drawn, toks := s'.toks } := by
    cases s'
    cases s
    cases o
    rfl
  rw [e]
  exact ⟨.ref p, _, J, rfl, q p np⟩
end
/-! the meaning -/
def srtSetD (d : D) : Option D := match d with
  | .list ds => match strsD ds with
    | some ys => if ys.length < 4000 ∧ (srtT ys).length < 60 then some (.list ((srtT ys).map PyData.str)) else none
    | none => none
  | _ => none
def rSrtSet (r : RE) : RE := fun ρ => bnd (r ρ) fun d => okO (srtSetD d)
@[simp] theorem rSrtSet_ap (r : RE) (ρ : En) : rSrtSet r ρ = bnd (r ρ) fun d => okO (srtSetD d) := rfl
theorem de_srtSet {F : Fx} {E : XK} {X : Cx} {fr : Bool} {e : Expr} {t : TE} {r : RE} {p p2 pos pos2 : Pos} (hc : X.calm = true) (hm : X.mg "sorted" = none) (hm2 : X.mg "set" = none) (h : DE F E X fr e t r) (hg : Gl X "sorted" := by rfl) (hg2 : Gl X "set" := by rfl)
    (he : starEach [e] X.env = (false, eval e X.env) :: starEach [] X.env := by rfl) (hpl : (backTo pos2 (starEach [] X.env)).any (·.1) = false := by rfl)
    (he2 : starEach [.Call (.Name "set" p2) [e] [] pos2] X.env = (false, eval (.Call (.Name "set" p2) [e] [] pos2) X.env) :: starEach [] X.env := by rfl) (hpl2 : (backTo pos (starEach [] X.env)).any (·.1) = false := by rfl) :
    DE F E X fr (.Call (.Name "sorted" p) [.Call (.Name "set" p2) [e] [] pos2] [] pos) (tCB (rSortTx X.w) (tCons (tCB (rSetS X.K X.w) (tCons t tNil)) tNil)) (rSrtSet r) :=
  ⟨pe_callB (cr_sortTx hc) hg hm (by decide +kernel) (pa_cons (pe_callTy (cr_setS hc) hg2 hm2 (by decide +kernel) (pa_cons h.run pa_nil he) (by decide) (by decide) he hpl) pa_nil he2) (by decide) (by decide) he2 hpl2,
   ⟨fun {H0 Z O σ H ρ o Q} hh e er k => h.snd.bnd hh e er fun d v H1 e1 x1 hh1 d1 => by
    obtain ⟨d', e3, rfl⟩ := okO_eq e1
    unfold srtSetD at e3
    split at e3
    · rename_i ds
      split at e3
      · rename_i ys hy
        split at e3
        · rename_i c
          cases e3
          obtain ⟨l, vs, rfl, s1, t1⟩ := dp_lst d1
          obtain rfl := strs_fit t1 hy
          refine ⟨l, ys, rfl, .inl (rd_mono hp_le s1), c.1, fun p1 n1 => ?_⟩
          refine ⟨p1, ys, rfl, upd_same, c.2, fun p2 n2 => ?_⟩
          have x2 : Ext F H1 (upd H1 p1 (TxO X.w p1 ys)) := ext_new n1 _
          have hh2 := hh1.go x2
          have x3 : Ext F (upd H1 p1 (TxO X.w p1 ys)) (upd (upd H1 p1 (TxO X.w p1 ys)) p2 (.lst ((srtT ys).map V.str))) := ext_new n2 _
          exact k _ _ _ rfl ((x1.trans x2).trans x3) (dp_newL n2 (hh2.fresh n2) (FitAll.strs _))
        · cases e3
      · cases e3
    · cases e3⟩⟩
end DL
set_option Elab.async false
set_option linter.all false
set_option maxRecDepth 100000
/-! a lambda with parameters that is handed on: its object stands in the heap that is tracked. -/
namespace DL
open PySem PySem.Spec L2 PyProof.Rows LamX NdefX
/-- the object at f is the lambda with the words F and the body e -/
def LamO (f : Addr) (F : NF) (e : Expr) : HO := .ext fun h => ∃ (pm ctv : Value), h.get? f = some (PySem.W.kla_obj F.name F.qual F.params e F.scope F.cl pm F.c ctv)
theorem lamO_at {P : Program} {w : World} {H : Hp} {h : Heap} {f : Addr} {F : NF} {e : Expr} (hok : HOk P w H h) (q : H f = some (LamO f F e)) : ∃ (pm ctv : Value), h.get? f = some (PySem.W.kla_obj F.name F.qual F.params e F.scope F.cl pm F.c ctv) := by
  obtain ⟨z, _, _⟩ := hok f _ q
  exact z
theorem lamO_tbl {f : Addr} {F : NF} {e : Expr} (ps : Array Value) : LamO f F e ≠ .tbl ps := fun z => by
  unfold LamO at z
  cases z
section
variable {X : Cx} {pins : List (Addr × Obj)} {σ : L2.St} {H : Hp} {s : Shared}
theorem inv_lam {F : NF} {e : Expr} {o : Obj} {t' : Nat} {pm ctv : Value} (I : Inv X pins σ H s) (ho : o = PySem.W.kla_obj F.name F.qual F.params e F.scope F.cl pm F.c ctv) :
    Inv X pins σ (upd H s.heap.objs.size (LamO s.heap.objs.size F e)) { s with heap := s.heap.push o, toks := t' } := by
  subst ho
  refine I.laid (a := s.heap.objs.size) (fun b u e => Heap.get?_push_of_some _ e) (Nat.le_refl _) ?_
  have q : (s.heap.push (PySem.W.kla_obj F.name F.qual F.params e F.scope F.cl pm F.c ctv)).get? s.heap.objs.size = some (PySem.W.kla_obj F.name F.qual F.params e F.scope F.cl pm F.c ctv) := Heap.get?_push_size _ rfl
  exact ⟨⟨pm, ctv, q⟩, ⟨_, q⟩, fun h1 h2 ⟨a, b, z⟩ st => ⟨a, b, st _ z⟩⟩
abbrev lamNF (q : Str) (params : Arguments) (scope : Scope) (cl : List (Str × Addr)) (c : Addr) : NF := ⟨"<lambda>", q, params, [], scope, cl, c⟩
theorem lamMake {c P : Addr} {params : Arguments} {body : Expr} {scope : Scope} {pos : Pos} {E : Value → Shared → Prop} {Q : Value → Shared → Prop} (I : Inv X pins σ H s) (TB : TabB X.base X.mg c P) (hcode : X.env.code = .ref c)
    (hT : TabS H P (X.env.qual ++ "<lambda>")) (hdef : defaultsOf params X.env = ([], [])) (hfree : ∀ y ∈ scope.names, y.2 = .free → ∃ c, X.env.cells.lookup y.1 = some c)
    (h : ∀ (f k : Addr) (H1 : Hp) (s' : Shared), Inv X pins σ H1 s' → ExtP P H H1 → TabS H1 P (X.env.qual ++ "<lambda>") → H f = none →
      H1 f = some (LamO f (lamNF (X.env.qual ++ "<lambda>") params scope (cloFrom X.env.cells scope.names []) k) body) → H1 k = some (CodeO k (X.env.qual ++ "<lambda>")) → Q (.ref f) s') :
    wpAny (model X.prog X.w) X.A (eval (.Lambda params body scope pos) X.env) Q E s := by
  obtain ⟨ps, tabP, trip, among⟩ := hT
  refine PySem.W.kla_eval hdef ?_
  have blt : s.heap.BuiltinsAt X.mg P := TB.bm.keeps I.bk
  have atHeap : s.heap.get? P = some { cls := .none, data := .fields ps } := I.hok P _ tabP
  cases found : codeAmong pos ps.toList with
  | some cv =>
    obtain ⟨k, rfl, codeK⟩ := among pos cv found
    refine PySem.W.kla_makeFunctionHit (mg := X.mg) (c := c) (P := P) (ps := ps) (closure_ok hfree) I.ok.glob (I.mod.glob.keeps I.bk) hcode (TB.code.keeps I.bk) atHeap trip found blt fun ctv h' tk keep grow => ?_
    have I0 : Inv X pins σ H { s with heap := h', toks := tk } := I.kept keep
    have nF : H h'.objs.size = none := I.hok.fresh grow
    have I1 := inv_lam (F := lamNF (X.env.qual ++ "<lambda>") params scope (cloFrom X.env.cells scope.names []) k) (e := body) (t' := tk) (pm := (X.mg "__name__").getD .none) (ctv := ctv) I0 rfl
    have up : ∀ b o, H b = some o → upd H h'.objs.size (LamO h'.objs.size (lamNF (X.env.qual ++ "<lambda>") params scope (cloFrom X.env.cells scope.names []) k) body) b = some o := fun b o e => (upd_ne (ne_of_none e nF)).trans e
    exact h h'.objs.size k _ _ I1 (fun b o _ e => up b o e) (TabS.ext ⟨ps, tabP, trip, among⟩ up) nF upd_same (up _ _ codeK)
  | none =>
    refine PySem.W.kla_makeFunction (mg := X.mg) (c := c) (P := P) (ps := ps) (closure_ok hfree) I.ok.glob (I.mod.glob.keeps I.bk) hcode (TB.code.keeps I.bk) atHeap trip found TB.gP blt fun k ctv h' tk keep ge lt rec htb => ?_
    obtain ⟨k2, oc, vs, t, e2, hoc, dat, nam⟩ := rec
    cases e2
    have freeK : H k = none := I.hok.fresh ge
    have I1 := inv_table (t' := tk) (more := #[rawInt pos.line, rawInt pos.col, .ref k]) (h' := h') I tabP (fun b o hb e => keep b o hb e) htb ge ⟨oc, vs, t, hoc, dat, nam⟩
    have ext : ExtP P H (upd (upd H P (.tbl (ps ++ #[rawInt pos.line, rawInt pos.col, .ref k]))) k (CodeO k (X.env.qual ++ "<lambda>"))) := by
      intro b o nb e
      rw [upd_ne (ne_of_none e freeK), upd_ne nb]
      exact e
    have asList : (ps ++ #[rawInt pos.line, rawInt pos.col, .ref k]).toList = ps.toList ++ [rawInt pos.line, rawInt pos.col, .ref k] := by simp
    have T1 : TabS (upd (upd H P (.tbl (ps ++ #[rawInt pos.line, rawInt pos.col, .ref k]))) k (CodeO k (X.env.qual ++ "<lambda>"))) P (X.env.qual ++ "<lambda>") := ⟨_, by rw [upd_ne (ne_of_none tabP freeK), upd_same], by rw [asList]; exact PySem.TriplesOk_snoc _ _ _ _ trip, fun p' cv hcv => by
      rw [asList] at hcv
      rcases among_app _ trip hcv with old | new
      · obtain ⟨k0, e1, e2⟩ := among p' cv old
        refine ⟨k0, e1, ext _ _ (fun z => ?_) e2⟩
        rw [z, tabP] at e2
        exact codeO_ne ps (Option.some.inj e2).symm
      · exact ⟨k, new, upd_same⟩⟩
    have nF := I1.hok.fresh (Nat.le_refl _)
    have I2 := inv_lam (F := lamNF (X.env.qual ++ "<lambda>") params scope (cloFrom X.env.cells scope.names []) k) (e := body) (t' := tk) (pm := (X.mg "__name__").getD .none) (ctv := ctv) I1 rfl
    refine h h'.objs.size k _ _ I2 (fun b o nb e => ?_) (T1.ext fun b o e => (upd_ne (ne_of_none e nF)).trans e) (I.hok.fresh (Nat.le_trans ge (Nat.le_of_lt lt))) upd_same ((upd_ne (Nat.ne_of_lt lt)).trans upd_same)
    have e1 := ext b o nb e
    exact (upd_ne (ne_of_none e1 nF)).trans e1
end
/-- the reading of a lambda's making -/
def tLam1 (P : Addr) (q : Str) (mk : Addr → NF) (body : Expr) : TE := fun _ H Q => TabS H P q ∧ ∀ (f k : Addr) (H1 : Hp), ExtP P H H1 → TabS H1 P q → H f = none → H1 f = some (LamO f (mk k) body) → H1 k = some (CodeO k q) → Q (.ref f) H1
theorem pe_lam {X : Cx} {c P : Addr} {params : Arguments} {body : Expr} {scope : Scope} {pos : Pos} (TB : TabB X.base X.mg c P) (hcode : X.env.code = .ref c) (hdef : defaultsOf params X.env = ([], []))
    (hfree : ∀ y ∈ scope.names, y.2 = .free → X.env.scope.names.lookup y.1 = some .cell ∨ X.env.scope.names.lookup y.1 = some .free) :
    PE X (.Lambda params body scope pos) (tLam1 P (X.env.qual ++ "<lambda>") (lamNF (X.env.qual ++ "<lambda>") params scope (cloFrom X.env.cells scope.names [])) body) := ⟨fun pins s σ H Q I h =>
  lamMake I TB hcode h.1 hdef (fun y hy e => (hfree y hy e).elim (fun z => I.ok.has _ (.inl z)) fun z => I.ok.has _ (.inr z)) fun f k H1 s' I1 x T n l c => ⟨.ref f, H1, I1, rfl, h.2 f k H1 x T n l c⟩⟩
/-! ### what a lambda promises -/
structure LOk (P : Program) (w : World) (K : PySem.W.Frag) (mg : Str → Option Value) (base : Heap) (k : Nat) (f : Addr) (F : NF) (e : Expr) (fr : List Str) (ws : List (Option V)) (sp : Sp) : Prop where
  run : ∀ (A : Around) (outer : List Env) (s : Shared) (H : Hp) (us : List Value) (vs : List V) (Q : VK) (E : XK), Room k A → Env0 P w K mg base A outer s H → H f = some (LamO f F e) → H F.c = some (CodeO F.c F.qual) →
    CellsAt F.cl fr ws s.heap H → Vals vs us → sp vs H Q E → codeAny (model P w) A (.call (.ref f) ⟨us, []⟩) (CR (L2.CX P w) outer P w H s Q E) s
section
variable {P : Program} {w : World} {K : PySem.W.Frag} {mg : Str → Option Value} {base : Heap} {N ps fr : List Str} {F : NF} {f : Addr} {k j : Nat} {e : Expr} {ws : List (Option V)} {sp : Sp}
theorem LOk.mono (o : LOk P w K mg base j f F e fr ws sp) (h : j ≤ k) : LOk P w K mg base k f F e fr ws sp := ⟨fun A outer s H us vs Q E hr => o.run A outer s H us vs Q E (hr.mono h)⟩
theorem lok_of (S : NScope N ps fr F.scope) (hb : ∀ (pm ctv : Value) (us : List Value), us.length = ps.length → bindArgs (PySem.W.kla_fn F.name F.qual F.params e F.scope F.cl pm (.ref F.c) ctv) ⟨us, []⟩ = pure (ps.zip us)) (len : ∀ vs H Q E, sp vs H Q E → vs.length = ps.length)
    (hbody : ∀ (A : Around) (outer : List Env) (s : Shared) (H : Hp) (vs : List V) (Q : VK) (E : XK), Room k (A.deeper (envF F f s.heap.objs.size)) → sp vs H Q E →
      ∃ t, PE (ncx (L2.CX P w) P w K mg base N F f A outer s H E) e t ∧ t (startF N vs ws) H Q) :
    LOk P w K mg base (k + 1) f F e fr ws sp := by
  refine ⟨fun A outer s H us vs Q E hr e0 hf hc C r hsp => ?_⟩
  have hl := len _ _ _ _ hsp
  have lim : s.heap.NoLimit := e0.mod.nolimit.keeps fun b o e => (e0.bs b o e).1
  obtain ⟨pm, ctv, ho⟩ := lamO_at e0.hok hf
  refine PySem.W.kla_callFunE hr.depth ho rfl S.co S.gen rfl (codeO_at e0.hok hc) ?_
  rw [hb pm ctv us (by rw [← r.length]; exact hl)]
  refine wpAny_pure (wpAny_newFunctionEnv S.nocell (fun ⟨n, _⟩ hy => S.par n (List.of_mem_zip hy).1) (fun h₁ hns hsb => ⟨lim.fresh _ hsb, ?_⟩) S.kind)
  show codeAny _ _ (.expr e (envF F f s.heap.objs.size)) _ _
  have kp : ∀ b o, s.heap.get? b = some o → h₁.get? b = some o := fun b o e => hsb.extBut b o (Nat.ne_of_lt (Heap.lt_size e)) (Heap.get?_push_of_some _ e)
  obtain ⟨t, ht, hq⟩ := hbody A outer s H vs Q E (hr.deeper _) hsp
  have I : Inv (ncx (L2.CX P w) P w K mg base N F f A outer s H E) [] (startF N vs ws) H { s with heap := h₁, toks := s.toks + (ps.zip us).length } := inv_startN S hr.hd e0 hl r C hns kp
  refine PySem.W.kla_codeExpr (wpAny_mono (ht.run [] _ (startF N vs ws) H Q I hq) (fun v s' hq => ?_) fun e s' hq => hq)
  obtain ⟨w', H', J', rv, q⟩ := hq
  exact ⟨w', H', J'.os, J'.bare, J'.base, J'.hok, rv, q⟩
end
/-! ### calls -/
section
variable {X : Cx} {pins : List (Addr × Obj)} {σ : L2.St} {H : Hp} {s : Shared} {cl : List (Str × Addr)} {fr : List Str} {ws : List (Option V)}
/-- what the cells held at the frame's beginning they hold still -/
theorem cells_later (C : CellsAt cl fr ws X.s_0.heap X.H_0) (hx : X.ex = []) (I : Inv X pins σ H s) : CellsAt cl fr ws s.heap H := by
  have nx : ∀ c : Addr, c ∉ X.ex := fun c z => by rw [hx] at z; cases z
  have kp : ∀ c v, X.H_0 c = none → X.s_0.heap.IsCell c v → s.heap.IsCell c v := fun c v n ⟨o, ho, hd⟩ => by
    obtain ⟨sl, q⟩ := I.base.any ho n (nx c)
    exact ⟨_, q, hd⟩
  refine ⟨C.len, fun y c e => ?_, C.inj, fun i y e => ?_⟩
  · obtain ⟨n, v, z⟩ := C.all y c e
    refine ⟨?_, v, kp c v n z⟩
    obtain ⟨o, ho, _⟩ := z
    exact I.base.free c o ho n (nx c)
  · obtain ⟨c, hc, hv⟩ := C.has i y e
    refine ⟨c, hc, fun v ev => ?_⟩
    obtain ⟨u, r, z⟩ := hv v ev
    exact ⟨u, r, kp c _ (C.all y c hc).1 z⟩
end
def tLamC (i : Nat) (f : Addr) (F : NF) (e0 : Expr) (sp : Sp) (E : XK) (t : TA) : TE := fun σ H Q => σ[i]? = some (some (.ref f)) ∧ H f = some (LamO f F e0) ∧
  t σ H fun vs H1 => H1 f = some (LamO f F e0) ∧ H1 F.c = some (CodeO F.c F.qual) ∧ sp vs H1 Q E
section
variable {X : Cx} {k i : Nat} {x : Str} {E : XK} {t : TA} {e : Expr} {es : List Expr} {p pos : Pos} {f : Addr} {F : NF} {e0 : Expr} {fr : List Str} {ws : List (Option V)} {sp : Sp}
theorem run_back {pins : List (Addr × Obj)} {σ : L2.St} {H : Hp} {s : Shared} {Q : VK} {g : Value} {us : List Value} (hx : Passes (L2.CX X.prog X.w) X E) (I : Inv X pins σ H s) (h : codeAny (model X.prog X.w) X.A (.call g ⟨us, []⟩) (CR (L2.CX X.prog X.w) X.stack X.prog X.w H s Q E) s) :
    wpAny (model X.prog X.w) X.A (call g us) (EP X pins σ Q) X.xe s := by
  refine wpAny_call (codeAny_mono h fun r s' hq => ?_)
  cases r with
  | error e => exact hx pins σ H s e s' I hq
  | ok fl =>
    cases fl with
    | ret u => exact I.after hq
    | next => exact False.elim hq
    | brk => exact False.elim hq
    | cont => exact False.elim hq
/-- x(e), x a name that holds the lambda at f -/
theorem pe_lamc (L : LOk X.prog X.w X.K X.mg X.base k f F e0 fr ws sp) (C : CellsAt F.cl fr ws X.s_0.heap X.H_0) (hex : X.ex = []) (hr : Room k X.A) (hx : Passes (L2.CX X.prog X.w) X E) (ha : PA X (e :: es) t) (hN : X.N[i]? = some x) (hv : Vis X.env.scope x)
    (hd : (x == ("__debug__" : Str)) = false := by decide) (hcd : (x == ("__classdict__" : Str)) = false := by decide)
    (he : starEach (e :: es) X.env = (false, eval e X.env) :: starEach es X.env := by rfl) (hpl : (backTo pos (starEach es X.env)).any (·.1) = false := by rfl) :
    PE X (.Call (.Name x p) (e :: es) [] pos) (tLamC i f F e0 sp E t) := by
  refine ⟨fun pins s σ H Q I h => ?_⟩
  obtain ⟨hs, hf, ht⟩ := h
  refine wpAny_Call_Name_kw (thn ((pe_var (pos := p) hN hv hd hcd).run pins s σ H (fun v H1 => v = .ref f ∧ H1 = H) I ⟨.ref f, hs, rfl, rfl⟩) fun u s1 ⟨v, H1, I1, r1, q1⟩ => ?_)
  obtain ⟨ev, eH⟩ := q1
  subst ev
  rw [eH] at I1
  obtain rfl : u = Value.ref f := r1
  have fnAt : ∀ {σ' : L2.St} {H' : Hp} {s' : Shared}, Inv X pins σ' H' s' → H' f = some (LamO f F e0) → PySem.W.FnAt f s'.heap := fun J q => by
    obtain ⟨pm, ctv, ho⟩ := lamO_at J.hok q
    exact ⟨_, _, _, _, ho⟩
  refine PySem.W.callWith_F (first := []) (fnAt I1 hf) (thn (ha.run pos pins s1 σ H _ I1 ht) fun us s2 ⟨vs, H2, I2, r, h1, h2, q⟩ => ⟨fnAt I2 h1, ?_⟩) he hpl
  exact run_back hx I2 (L.run X.A X.stack s2 H2 us vs Q E hr I2.env0 h1 h2 (cells_later C hex I2) r q)
/-- a def that is called with the lambda, told of the very state -/
structure PutOk (P : Program) (w : World) (K : PySem.W.Frag) (mg : Str → Option Value) (base : Heap) (k : Nat) (g f : Addr) (F : NF) (e0 : Expr) (fr : List Str) (ws : List (Option V)) (sp : Sp) : Prop where
  run : ∀ (A : Around) (outer : List Env) (s : Shared) (H : Hp) (us : List Value) (vs : List V) (Q : VK) (E : XK), Room k A → Env0 P w K mg base A outer s H → H f = some (LamO f F e0) → H F.c = some (CodeO F.c F.qual) →
    CellsAt F.cl fr ws s.heap H → Vals vs us → sp vs H Q E → codeAny (model P w) A (.call (.ref g) ⟨us, []⟩) (CR (L2.CX P w) outer P w H s Q E) s
theorem PutOk.mono {P : Program} {w : World} {K : PySem.W.Frag} {mg : Str → Option Value} {base : Heap} {j k : Nat} {g f : Addr} {F : NF} {e0 : Expr} {fr : List Str} {ws : List (Option V)} {sp : Sp} (o : PutOk P w K mg base j g f F e0 fr ws sp) (h : j ≤ k) : PutOk P w K mg base k g f F e0 fr ws sp := ⟨fun A outer s H us vs Q E hr => o.run A outer s H us vs Q E (hr.mono h)⟩
def tPutC (ws : L2.St → List (Option V)) (mk : Addr → NF) (e0 : Expr) (fr : List Str) (P : Program) (w : World) (K : PySem.W.Frag) (mg : Str → Option Value) (base : Heap) (k : Nat) (g : Addr) (E : XK) (t : TA) : TE := fun σ H Q =>
  t σ H fun vs H1 => ∃ (f c : Addr) (sp : Sp), PutOk P w K mg base k g f (mk c) e0 fr (ws σ) sp ∧ H1 f = some (LamO f (mk c) e0) ∧ H1 (mk c).c = some (CodeO (mk c).c (mk c).qual) ∧ sp vs H1 Q E
theorem pe_putc {ws : L2.St → List (Option V)} {mk : Addr → NF} {cl : List (Str × Addr)} {g : Addr} (hcl : ∀ c, (mk c).cl = cl) (hC : ∀ {pins : List (Addr × Obj)} {σ : L2.St} {H : Hp} {s : Shared}, Inv X pins σ H s → CellsAt cl fr (ws σ) s.heap H) (hr : Room k X.A) (hg : Gl X x) (hm : X.mg x = some (.ref g)) (hk : PySem.W.keepIn X.K (.ref g) = true) (hx : Passes (L2.CX X.prog X.w) X E) (ha : PA X (e :: es) t)
    (hdb : (x == ("__debug__" : Str)) = false := by decide) (he : starEach (e :: es) X.env = (false, eval e X.env) :: starEach es X.env := by rfl) (hpl : (backTo pos (starEach es X.env)).any (·.1) = false := by rfl) :
    PE X (.Call (.Name x p) (e :: es) [] pos) (tPutC ws mk e0 fr X.prog X.w X.K X.mg X.base k g E t) := by
  refine ⟨fun pins s σ H Q I h => ?_⟩
  refine wpAny_Call_Name_kw (ld_glob I hg hm ?_ hdb)
  refine PySem.W.callWith_K (h₀ := X.base) I.ok.mod.kin hk (thn (ha.run pos pins s σ H _ I h) fun us s1 ⟨vs, H1, I1, r, f, c, sp, G, h1, h2, q⟩ => ⟨I1.kIn, ?_⟩) he hpl
  exact run_back hx I1 (G.run X.A X.stack s1 H1 us vs Q E hr I1.env0 h1 h2 (by rw [hcl c]; exact hC I1) r q)
end
end DL
set_option Elab.async false
set_option linter.all false
set_option maxRecDepth 100000
/-! lambdas that are handed on, by meanings; defs under a table of lambdas. -/
namespace DL
open PySem PySem.Spec L2 PyProof.Rows LamX NdefX
theorem holds_startG {K : PySem.W.Frag} {F : Fx} {H : Hp} {vs : List V} {ds : List D} {N : List Str} (hB : ∀ p, H p = none → ¬ F.bad p) (hi : F.inv H) (hd : FitAll K (hp F [] false H) vs ds) (hl : ds.length ≤ N.length) :
    Holds K F H (fun _ => none) (List.replicate N.length none) (start N vs) H (ds.map SV.val ++ List.replicate (N.length - ds.length) SV.no) := by
  have h := holds_start (K := K) (exc := F.exc) (B := F.bad) (N := N) (vs := vs) (ds := ds) hB hd hl
  exact ⟨h.len, h.olen, h.val, h.own, h.raw, h.dic, h.inj, h.new, h.bex, Ext.refl _ _, h.frz, h.oin, hi⟩
theorem nO_rep {n : Nat} (a : Addr) : some a ∉ List.replicate n (none : Option Addr) := fun z => by
  have := (List.mem_replicate.mp z).2
  cases this
theorem hp_end {F : Fx} {n : Nat} {fr : Bool} {H : Hp} : Same (hp F (List.replicate n none) fr H) (hp F [] false H) := fun a o h => by
  obtain ⟨z, q⟩ := hp_some.mp h
  exact hp_some.mpr ⟨fun y => z (y.elim .inl fun y => (nomatch y.1)), q⟩
/-! ### the lambda's meaning; y: the int that it captured -/
def lamSem (rb : RE) (n : Int) : List D → R D := fun ds => rb (ds.map SV.val ++ [SV.val (.int n)])
section
variable {P : Program} {w : World} {K : PySem.W.Frag} {mg : Str → Option Value} {base : Heap} {exc : Cn → Value}
theorem lok_d {x y : Str} {F : NF} {f : Addr} {k : Nat} {e : Expr} {rb : RE} (S : NScope [x, y] [x] [y] F.scope) (hb : ∀ (pm ctv : Value) (us : List Value), us.length = 1 → bindArgs (PySem.W.kla_fn F.name F.qual F.params e F.scope F.cl pm (.ref F.c) ctv) ⟨us, []⟩ = pure ([x].zip us))
    (body : ∀ (A : Around) (outer : List Env) (s : Shared) (H : Hp) (E : XK) (B : Addr → Prop), Room k (A.deeper (envF F f s.heap.objs.size)) → ∃ t, DE (pureF exc B) E (ncx (L2.CX P w) P w K mg base [x, y] F f A outer s H E) true e t rb) (n : Int) :
    LOk P w K mg base (k + 1) f F e [y] [some (.int n)] (spD K exc 1 (lamSem rb n)) := by
  refine lok_of S hb (fun vs H Q E h => spD_len h) fun A outer s H vs Q E hr h => ?_
  have hvl := spD_len h
  obtain ⟨B, ds, o, hB, hd, hl, he, k1, k2⟩ := h
  obtain ⟨t, dd⟩ := body A outer s H E B hr
  refine ⟨t, dd.run, ?_⟩
  have hh := holds_start (K := K) (exc := exc) (N := [x, y]) (vs := vs ++ [.int n]) (ds := ds ++ [.int n]) hB (FitAll.app hd (.cons (.int n) .nil)) (by simp [hl])
  have es : startF [x, y] vs [some (V.int n)] = L2.start [x, y] (vs ++ [V.int n]) := by
    match vs, hvl with
    | [v], _ => rfl
  have er : (ds ++ [PyData.int n]).map SV.val ++ List.replicate ([x, y].length - (ds ++ [PyData.int n]).length) SV.no = ds.map SV.val ++ [SV.val (PyData.int n)] := by
    match ds, hl with
    | [d], _ => rfl
  rw [er] at hh
  rw [es]
  have same : ∀ {H' : Hp}, Ext (pureF exc B) H H' → Same H H' := fun e a o q => e.keep a o (fun z => z) q
  exact dd.snd.go hh he (fun c q H' x => k2 c H' q (same x)) fun d v H' q x f => k1 d v H' q (same x) (dp_mono hp_end f)
theorem lok_l {x y q : Str} {params : Arguments} {scope : Scope} {cl : List (Str × Addr)} {c f : Addr} {k : Nat} {e : Expr} {rb : RE} (S : NScope [x, y] [x] [y] scope) (hb : ∀ (q : Str) (cl : List (Str × Addr)) (pm cv ctv : Value) (us : List Value), us.length = 1 → bindArgs (PySem.W.kla_fn "<lambda>" q params e scope cl pm cv ctv) ⟨us, []⟩ = pure ([x].zip us))
    (body : ∀ (A : Around) (outer : List Env) (s : Shared) (H : Hp) (E : XK) (B : Addr → Prop), Room k (A.deeper (envF (lamNF q params scope cl c) f s.heap.objs.size)) → ∃ t, DE (pureF exc B) E (ncx (L2.CX P w) P w K mg base [x, y] (lamNF q params scope cl c) f A outer s H E) true e t rb) (n : Int) :
    LOk P w K mg base (k + 1) f (lamNF q params scope cl c) e [y] [some (.int n)] (spD K exc 1 (lamSem rb n)) := lok_d (F := lamNF q params scope cl c) S (fun pm ctv us hu => hb _ _ _ _ _ us hu) body n
end
/-! ### in the def that got it -/
def lamF (exc : Cn → Value) (B : Addr → Prop) (f : Addr) (F : NF) (e0 : Expr) : Fx where
  exc := exc
  bad := B
  mu := fun _ => False
  sub := fun _ h => h.elim
  inv := fun H => H f = some (LamO f F e0) ∧ H F.c = some (CodeO F.c F.qual)
  mono := fun _ _ s h => ⟨s _ _ h.1, s _ _ h.2⟩
  lst := fun H a xs ys e h => by
    refine ⟨?_, ?_⟩
    · rw [upd_ne (fun z => by
        have := h.1
        rw [z, e] at this
        unfold LamO at this
        cases this)]
      exact h.1
    · rw [upd_ne (fun z => by
        have := h.2
        rw [z, e] at this
        unfold CodeO at this
        cases this)]
      exact h.2
def rLam (i : Nat) (f : Addr) (m : List D → R D) (rs : RA) : RE := fun ρ => match ρ[i]? with
  | some (.raw (.ref a)) => if a = f then bnd (rs ρ) fun ds => if ds.length = 1 then m ds else none else none
  | _ => none
theorem rLam_go {i : Nat} {f : Addr} {m : List D → R D} {rs : RA} {ρ : En} {ds : List D} {o : R D} (h1 : ρ[i]? = some (.raw (.ref f))) (h2 : rs ρ = some (.ok ds)) (h3 : ds.length = 1) (h4 : m ds = o) : rLam i f m rs ρ = o := by
  unfold rLam
  simp only [h1, if_true, h2, bnd_ok, h3, h4]
theorem rLam_inv {i : Nat} {f : Addr} {m : List D → R D} {rs : RA} {ρ : En} {o : Except Cn D} (h : rLam i f m rs ρ = some o) : ρ[i]? = some (.raw (.ref f)) ∧ (bnd (rs ρ) fun ds => if ds.length = 1 then m ds else none) = some o := by
  unfold rLam at h
  split at h
  · rename_i a e
    split at h
    · rename_i ea
      subst ea
      exact ⟨e, h⟩
    · cases h
  · cases h
/-- g(e1, e2, x), x the lambda -/
def rPut (i : Nat) (f : Addr) (m : List D → R D) (r1 r2 : RE) : RE := fun ρ => match ρ[i]? with
  | some (.raw (.ref a)) => if a = f then bnd (r1 ρ) fun d1 => bnd (r2 ρ) fun d2 => m [d1, d2] else none
  | _ => none
theorem rPut_go {i : Nat} {f : Addr} {m : List D → R D} {r1 r2 : RE} {ρ : En} {d1 d2 : D} {o : R D} (h1 : ρ[i]? = some (.raw (.ref f))) (h2 : r1 ρ = some (.ok d1)) (h3 : r2 ρ = some (.ok d2)) (h4 : m [d1, d2] = o) : rPut i f m r1 r2 ρ = o := by
  unfold rPut
  simp only [h1, if_true, h2, h3, bnd_ok, h4]
theorem rPut_inv {i : Nat} {f : Addr} {m : List D → R D} {r1 r2 : RE} {ρ : En} {o : Except Cn D} (h : rPut i f m r1 r2 ρ = some o) : ρ[i]? = some (.raw (.ref f)) ∧ (bnd (r1 ρ) fun d1 => bnd (r2 ρ) fun d2 => m [d1, d2]) = some o := by
  unfold rPut at h
  split at h
  · rename_i a e
    split at h
    · rename_i ea
      subst ea
      exact ⟨e, h⟩
    · cases h
  · cases h
def spP (K : PySem.W.Frag) (exc : Cn → Value) (f : Addr) (m : List D → R D) : Sp := fun vs H Q E => ∃ vs', vs = vs' ++ [.ref f] ∧ spD K exc 2 m vs' H Q E
section
variable {X : Cx} {exc : Cn → Value} {B : Addr → Prop} {E : XK} {fr : Bool} {k : Nat} {x : Str} {f g : Addr} {F : NF} {e0 : Expr} {fs : List Str} {ws : List (Option V)} {m : List D → R D} {p p3 pos : Pos}
theorem de_lam (i : Nat) {e : Expr} {es : List Expr} {t : TA} {rs : RA} (L : LOk X.prog X.w X.K X.mg X.base k f F e0 fs ws (spD X.K exc 1 m)) (C : CellsAt F.cl fs ws X.s_0.heap X.H_0) (hr : Room k X.A) (hx : Passes (L2.CX X.prog X.w) X E) (ha : DA (lamF exc B f F e0) E X fr (e :: es) t rs)
    (hex : X.ex = [] := by rfl) (hN : X.N[i]? = some x := by rfl) (hv : Vis X.env.scope x := by first | exact Or.inl rfl | exact Or.inr (Or.inl rfl) | exact Or.inr (Or.inr rfl)) (hd : (x == ("__debug__" : Str)) = false := by decide) (hcd : (x == ("__classdict__" : Str)) = false := by decide)
    (he : starEach (e :: es) X.env = (false, eval e X.env) :: starEach es X.env := by rfl) (hpl : (backTo pos (starEach es X.env)).any (·.1) = false := by rfl) :
    DE (lamF exc B f F e0) E X fr (.Call (.Name x p) (e :: es) [] pos) (tLamC i f F e0 (spD X.K exc 1 m) E t) (rLam i f m rs) := by
  refine ⟨pe_lamc L C hex hr hx ha.run hN hv hd hcd he hpl, ⟨fun {H0 Z O σ H ρ o Q} hh e er k => ?_⟩⟩
  obtain ⟨q1, q2⟩ := rLam_inv e
  refine ⟨hh.raw i _ q1, hh.ok.1, ha.snd.bnd hh q2 er fun ds vs H1 e1 x1 hh1 d1 => ⟨hh1.ok.1, hh1.ok.2, ?_⟩⟩
  split at e1
  · rename_i hlen
    refine ⟨fun a => (lamF exc B f F e0).bad a ∨ (fr = true ∧ some a ∈ O), ds, o, fun p n => hh1.fresh n, by rw [hp_pure]; exact d1, hlen, e1, fun d v H' q s d2 => ?_, fun c H' q s => er c q H' (x1.trans (Ext.of s))⟩
    rw [hp_pure] at d2
    exact k d v H' q (x1.trans (Ext.of s)) d2
  · cases e1
theorem de_put (i : Nat) {y : Str} {e1 e2 : Expr} {t1 t2 : TE} {r1 r2 : RE} (G : PutOk X.prog X.w X.K X.mg X.base k g f F e0 fs ws (spP X.K exc f m)) (C : CellsAt F.cl fs ws X.s_0.heap X.H_0) (hr : Room k X.A) (hm : X.mg x = some (.ref g)) (hk : PySem.W.keepIn X.K (.ref g) = true) (hx : Passes (L2.CX X.prog X.w) X E) (h1 : DE (lamF exc B f F e0) E X fr e1 t1 r1) (h2 : DE (lamF exc B f F e0) E X fr e2 t2 r2)
    (hex : X.ex = [] := by rfl) (hg : Gl X x := by rfl) (hN : X.N[i]? = some y := by rfl) (hv : Vis X.env.scope y := by first | exact Or.inl rfl | exact Or.inr (Or.inl rfl) | exact Or.inr (Or.inr rfl)) (hd : (y == ("__debug__" : Str)) = false := by decide) (hcd : (y == ("__classdict__" : Str)) = false := by decide)
    (hdb : (x == ("__debug__" : Str)) = false := by decide) (he : starEach [e1, e2, .Name y p3] X.env = (false, eval e1 X.env) :: starEach [e2, .Name y p3] X.env := by rfl) (he2 : starEach [e2, .Name y p3] X.env = (false, eval e2 X.env) :: starEach [.Name y p3] X.env := by rfl) (he3 : starEach [.Name y p3] X.env = (false, eval (.Name y p3) X.env) :: starEach [] X.env := by rfl) (hpl : (backTo pos (starEach [e2, .Name y p3] X.env)).any (·.1) = false := by rfl) :
    DE (lamF exc B f F e0) E X fr (.Call (.Name x p) [e1, e2, .Name y p3] [] pos) (tPutC (fun _ => ws) (fun _ => F) e0 fs X.prog X.w X.K X.mg X.base k g E (tCons t1 (tCons t2 (tCons (tVar i) tNil)))) (rPut i f m r1 r2) := by
  refine ⟨pe_putc (cl := F.cl) (fun _ => rfl) (fun I => cells_later C hex I) hr hg hm hk hx (pa_cons h1.run (pa_cons h2.run (pa_cons (pe_var hN hv hd hcd) pa_nil he3) he2) he) hdb he hpl, ⟨fun {H0 Z O σ H ρ o Q} hh e er k => ?_⟩⟩
  obtain ⟨q1, q2⟩ := rPut_inv e
  refine h1.snd.bnd hh q2 er fun d1 v1 H1 q3 x1 hh1 f1 => ?_
  refine h2.snd.bnd hh1 q3 (er.go x1) fun d2 v2 H2 q4 x2 hh2 f2 => ?_
  refine ⟨.ref f, hh.raw i _ q1, f, F.c, _, G, hh2.ok.1, hh2.ok.2, [v1, v2], rfl, ?_⟩
  refine ⟨fun a => (lamF exc B f F e0).bad a ∨ (fr = true ∧ some a ∈ O), [d1, d2], o, fun p n => hh2.fresh n, by rw [hp_pure]; exact .cons (dp_mono (hp_ext x2) f1) (.cons f2 .nil), rfl, q4, fun d v H' q s d2 => ?_, fun c H' q s => er c q H' ((x1.trans x2).trans (Ext.of s))⟩
  rw [hp_pure] at d2
  exact k d v H' q ((x1.trans x2).trans (Ext.of s)) d2
end
/-! ### its promise by its body -/
def fnSemP (N : Nat) (f : Addr) (r : RS) : List D → R D := fun ds => match r ((ds.map SV.val ++ List.replicate (N - ds.length) SV.no).set 2 (.raw (.ref f))) with
  | some (.rt d) => some (.ok d)
  | some (.nx _) => some (.ok .none)
  | some (.ex c) => some (.error c)
  | _ => none
section
variable {P : Program} {w : World} {K : PySem.W.Frag} {mg : Str → Option Value} {base : Heap} {exc : Cn → Value}
theorem put_ok {x : Str} {st : Stmt} {g f : Addr} {F : NF} {e0 : Expr} {fs : List Str} {ws : List (Option V)} {oc dV kV doc pm cdv ct : Value} {an od : Option Addr} {osl : Array (Option Value)} {N ps : List Str} {k : Nat} {r : RS}
    (lk : K.lookup g = some ⟨oc, od, .func (PySem.W.fnOf x x (defArgs st) (defBody st) (defScope st) dV kV doc pm an cdv ct), osl⟩) (hcd : PySem.W.codeIn K cdv x = true) (hb : Binds K (PySem.W.fnOf x x (defArgs st) (defBody st) (defScope st) dV kV doc pm an cdv ct) ps []) (S : FnScope N ps (defScope st)) (hn : ps.length = 3)
    (body : ∀ (A : Around) (outer : List Env) (s : Shared) (H : Hp) (E : XK) (B : Addr → Prop), CellsAt F.cl fs ws s.heap H → Room k (A.deeper (PyProof.Rows.envOfC x (defScope st) s.heap.objs.size g cdv)) →
      ∃ t, DSs (lamF exc B f F e0) E (cxOf (L2.CX P w) P w K mg base N x (defScope st) g cdv A outer s H E) (defBody st) t r) :
    PutOk P w K mg base (k + 1) g f F e0 fs ws (spP K exc f (fnSemP N.length f r)) := by
  refine ⟨fun A outer s H us vs Q E hr en hf hc C rv h => ?_⟩
  obtain ⟨vs', rfl, h⟩ := h
  have hvl := spD_len h
  have hul : us.length = 3 := by rw [← rv.length]; simp [hvl]
  have KX : K.In s.heap := en.mod.kin.keeps fun b o e => (en.bs b o e).1
  refine run_ofS (N := N) (ps := ps) (us := us) (vs := vs' ++ [.ref f]) lk hcd S hr en (by have z := hb s us KX (by simp [hul, hn]); rw [List.append_nil] at z; exact z) rv (by simp [hvl, hn]) fun hr' => ?_
  obtain ⟨B, ds, o, hB, hd, hl, he, k1, k2⟩ := h
  obtain ⟨t, dd⟩ := body A outer s H E B C hr'
  refine ⟨t, dd.run, ?_⟩
  have hle : 3 ≤ N.length := by
    have z := congrArg List.length S.pre
    rw [List.length_take] at z
    omega
  have hh0 := holds_startG (K := K) (F := lamF exc B f F e0) (N := N) hB ⟨hf, hc⟩ hd (by omega)
  have hh := hh0.setRaw (fun a => nO_rep a) (v := .ref f) 2
  have es : (L2.start N vs').set 2 (some (.ref f)) = L2.start N (vs' ++ [V.ref f]) := by
    match vs', hvl with
    | [v1, v2], _ =>
      unfold L2.start
      have : N.length - [v1, v2].length = (N.length - ([v1, v2] ++ [V.ref f]).length) + 1 := by simp; omega
      rw [this, List.replicate_succ]
      rfl
  rw [es] at hh
  have same : ∀ {H' : Hp}, Ext (lamF exc B f F e0) H H' → Same H H' := fun e a o q => e.keep a o (fun z => z) q
  unfold fnSemP at he
  cases c : r ((ds.map SV.val ++ List.replicate (N.length - ds.length) SV.no).set 2 (.raw (.ref f))) with
  | none => rw [c] at he; cases he
  | some o1 =>
    rw [c] at he
    refine dd.snd.go hh c ?_
    cases o1 with
    | nx ρ => cases he; exact fun O σ H' h' => k1 _ _ _ rfl (same h'.ext) .non
    | bk ρ => cases he
    | ct ρ => cases he
    | rt d => cases he; exact fun v H' e d' => k1 _ _ _ rfl (same e) d'
    | ex c => cases he; exact fun H' e => k2 _ _ rfl (same e)
theorem put_none {g f : Addr} {F : NF} {e0 : Expr} {fs : List Str} {ws : List (Option V)} {k : Nat} {m : List D → R D} (h0 : ∀ ds, m ds = none) : PutOk P w K mg base k g f F e0 fs ws (spP K exc f m) := ⟨fun A outer s H us vs Q E _ _ _ _ _ _ h => by
  obtain ⟨vs', _, B, ds, o, _, _, _, he, _⟩ := h
  rw [h0] at he
  cases he⟩
end
/-! ### the def that makes it -/
open Classical in
noncomputable def allF (g : Addr → R D) : R D := if h : ∃ o, ∀ f, g f = some o then some h.choose else none
theorem allF_go {g : Addr → R D} {o : Except Cn D} (h : ∀ f, g f = some o) : allF g = some o := by
  have hd : ∃ o, ∀ f, g f = some o := ⟨o, h⟩
  unfold allF
  rw [dif_pos hd]
  have e := hd.choose_spec 0
  rw [h 0] at e
  exact e.symm
theorem allF_inv {g : Addr → R D} {o : Except Cn D} (h : allF g = some o) (f : Addr) : g f = some o := by
  unfold allF at h
  split at h
  · rename_i hd
    have sp := hd.choose_spec f
    rw [Option.some.inj h] at sp
    exact sp
  · cases h
/-- g(e1, e2, lambda ..), the slot j captured -/
noncomputable def rSp (j : Nat) (m : Addr → Int → List D → R D) (r1 r2 : RE) : RE := fun ρ => match ρ[j]? with
  | some (.val (.int n)) => bnd (r1 ρ) fun d1 => bnd (r2 ρ) fun d2 => allF fun f => m f n [d1, d2]
  | _ => none
theorem rSp_go {j : Nat} {m : Addr → Int → List D → R D} {r1 r2 : RE} {ρ : En} {n : Int} {d1 d2 : D} {o : Except Cn D} (h1 : ρ[j]? = some (.val (.int n))) (h2 : r1 ρ = some (.ok d1)) (h3 : r2 ρ = some (.ok d2)) (h4 : ∀ f, m f n [d1, d2] = some o) : rSp j m r1 r2 ρ = some o := by
  unfold rSp
  simp only [h1, h2, h3, bnd_ok]
  exact allF_go h4
theorem rSp_inv {j : Nat} {m : Addr → Int → List D → R D} {r1 r2 : RE} {ρ : En} {o : Except Cn D} (h : rSp j m r1 r2 ρ = some o) : ∃ n, ρ[j]? = some (.val (.int n)) ∧ (bnd (r1 ρ) fun d1 => bnd (r2 ρ) fun d2 => allF fun f => m f n [d1, d2]) = some o := by
  unfold rSp at h
  split at h
  · rename_i n e
    exact ⟨n, e, h⟩
  · cases h
section
variable {X : Cx} {exc : Cn → Value} {B : Addr → Prop} {E : XK} {fr : Bool} {k : Nat} {x : Str} {g : Addr} {p lpos pos : Pos}
theorem de_sp (j : Nat) {y : Str} {e1 e2 : Expr} {t1 t2 : TE} {r1 r2 : RE} {m : Addr → Int → List D → R D} {params : Arguments} {body : Expr} {scope : Scope} {c P : Addr} {q : Str}
    (G : ∀ (f c : Addr) (n : Int), PutOk X.prog X.w X.K X.mg X.base k g f (lamNF q params scope (cloFrom X.env.cells scope.names []) c) body [y] [some (.int n)] (spP X.K exc f (m f n)))
    (TB : TabB X.base X.mg c P) {sc : Scope} (hfr : ndefB sc scope [y] = true) (hr : Room k X.A) (hm : X.mg x = some (.ref g)) (hk : PySem.W.keepIn X.K (.ref g) = true) (hx : Passes (L2.CX X.prog X.w) X E) (h1 : DE (tabF exc B P q) E X fr e1 t1 r1) (h2 : DE (tabF exc B P q) E X fr e2 t2 r2)
    (hj : X.N[j]? = some y := by rfl) (hsc : X.env.scope = sc := by rfl) (hq : q = X.env.qual ++ "<lambda>" := by rfl) (hcode : X.env.code = .ref c := by rfl) (hdef : defaultsOf params X.env = ([], []) := by rfl) (hg : Gl X x := by rfl)
    (hdb : (x == ("__debug__" : Str)) = false := by decide) (he : starEach [e1, e2, .Lambda params body scope lpos] X.env = (false, eval e1 X.env) :: starEach [e2, .Lambda params body scope lpos] X.env := by rfl) (he2 : starEach [e2, .Lambda params body scope lpos] X.env = (false, eval e2 X.env) :: starEach [.Lambda params body scope lpos] X.env := by rfl)
    (he3 : starEach [.Lambda params body scope lpos] X.env = (false, eval (.Lambda params body scope lpos) X.env) :: starEach [] X.env := by rfl) (hpl : (backTo pos (starEach [e2, .Lambda params body scope lpos] X.env)).any (·.1) = false := by rfl) :
    DE (tabF exc B P q) E X fr (.Call (.Name x p) [e1, e2, .Lambda params body scope lpos] [] pos) (tPutC (fun σ => [j].map (slotAt σ)) (lamNF q params scope (cloFrom X.env.cells scope.names [])) body [y] X.prog X.w X.K X.mg X.base k g E (tCons t1 (tCons t2 (tCons (tLam1 P q (lamNF q params scope (cloFrom X.env.cells scope.names [])) body) tNil)))) (rSp j m r1 r2) := by
  subst hq
  subst hsc
  refine ⟨pe_putc (cl := cloFrom X.env.cells scope.names []) (fun _ => rfl) (fun I => cells_of I (Caps.made I.ok (ndef_free hfr) (ndef_fr hfr) (by simp [hj]))) hr hg hm hk hx (pa_cons h1.run (pa_cons h2.run (pa_cons (pe_lam TB hcode hdef (ndef_free hfr)) pa_nil he3) he2) he) hdb he hpl, ⟨fun {H0 Z O σ H ρ o Q} hh e er kk => ?_⟩⟩
  obtain ⟨n, q1, q2⟩ := rSp_inv e
  obtain ⟨v, s1, s2⟩ := hh.val j _ q1
  have ev := dp_int s2
  subst ev
  have ew : [j].map (slotAt σ) = [some (V.int n)] := by
    show [slotAt σ j] = _
    rw [slotAt_of s1]
  refine h1.snd.bnd hh q2 er fun d1 v1 H1 q3 x1 hh1 f1 => ?_
  refine h2.snd.bnd hh1 q3 (er.go x1) fun d2 v2 H2 q4 x2 hh2 f2 => ?_
  refine ⟨hh2.ok, fun f c' H3 x3 T3 nf lf cf => ?_⟩
  have x4 : Ext (tabF exc B P (X.env.qual ++ "<lambda>")) H2 H3 := ext_P x3 T3
  have hh3 := hh2.go x4
  have x5 := (x1.trans x2).trans x4
  have G1 : PutOk X.prog X.w X.K X.mg X.base k g f (lamNF (X.env.qual ++ "<lambda>") params scope (cloFrom X.env.cells scope.names []) c') body [y] ([j].map (slotAt σ)) (spP X.K exc f (m f n)) := by rw [ew]; exact G f c' n
  refine ⟨f, c', spP X.K exc f (m f n), G1, lf, cf, [v1, v2], rfl, ?_⟩
  refine ⟨fun a => (tabF exc B P (X.env.qual ++ "<lambda>")).bad a ∨ (fr = true ∧ some a ∈ O), [d1, d2], o, fun p n => hh3.fresh n, by rw [hp_pure]; exact .cons (dp_mono (hp_ext (x2.trans x4)) f1) (.cons (dp_mono (hp_ext x4) f2) .nil), rfl, allF_inv q4 f, fun d v H' q s d2 => ?_, fun c H' q s => er c q H' (x5.trans (Ext.of s))⟩
  rw [hp_pure] at d2
  exact kk d v H' q (x5.trans (Ext.of s)) d2
end
/-! ### defs under a table -/
def spDT (K : PySem.W.Frag) (exc : Cn → Value) (P : Addr) (q : Str) (n : Nat) (m : List D → R D) : Sp := fun vs H Q E => ∃ (B : Addr → Prop) (ds : List D) (o : Except Cn D), (∀ p, H p = none → ¬ B p) ∧ TabS H P q ∧ FitAll K (hp (tabF exc B P q) [] false H) vs ds ∧ ds.length = n ∧ m ds = some o ∧
  (∀ d v H', o = .ok d → Ext (tabF exc B P q) H H' → Fit K (hp (tabF exc B P q) [] false H') v d → Q v H') ∧ ∀ c H', o = .error c → Ext (tabF exc B P q) H H' → E (exc c) none H'
structure KnownT (Pr : Program) (w : World) (K : PySem.W.Frag) (mg : Str → Option Value) (base : Heap) (exc : Cn → Value) (P : Addr) (q : Str) (k : Nat) (x : Str) (n : Nat) (m : List D → R D) : Prop where
  ex : ∃ (f : Addr) (fd : FuncData) (ps : List Str), ps.length = n ∧ FnOk Pr w K mg base (L2.CX Pr w) k f fd ps (spDT K exc P q n m) ∧ mg x = some (.ref f) ∧ PySem.W.keepIn K (.ref f) = true ∧ Binds K fd ps []
theorem spDT_len {K : PySem.W.Frag} {exc : Cn → Value} {P : Addr} {q : Str} {n : Nat} {m : List D → R D} {vs : List V} {H : Hp} {Q : VK} {E : XK} (h : spDT K exc P q n m vs H Q E) : vs.length = n := by
  obtain ⟨B, ds, o, _, _, hd, hl, _⟩ := h
  rw [FitAll.len hd]
  exact hl
theorem hp_tabO {O : List (Option Addr)} {fr : Bool} {H : Hp} {exc : Cn → Value} {B : Addr → Prop} {P : Addr} {q : Str} : hp (tabF exc (fun a => B a ∨ (fr = true ∧ some a ∈ O)) P q) [] false H = hp (tabF exc B P q) O fr H := by
  funext a
  have e : ((B a ∨ (fr = true ∧ some a ∈ O)) ∨ a = P) ∨ (false = true ∧ some a ∈ ([] : List (Option Addr))) ↔ (B a ∨ a = P) ∨ (fr = true ∧ some a ∈ O) := by
    constructor
    · rintro ((h | h) | h)
      · rcases h with h | h
        · exact .inl (.inl h)
        · exact .inr h
      · exact .inl (.inr h)
      · exact nomatch h.1
    · rintro ((h | h) | h)
      · exact .inl (.inl (.inl h))
      · exact .inl (.inr h)
      · exact .inl (.inl (.inr h))
  unfold hp
  by_cases c : (B a ∨ a = P) ∨ (fr = true ∧ some a ∈ O)
  · exact (if_pos (e.mpr c)).trans (if_pos c).symm
  · exact (if_neg (fun z => c (e.mp z))).trans (if_neg c).symm
theorem ext_tabO {exc : Cn → Value} {B B' : Addr → Prop} {P : Addr} {q : Str} {H H' : Hp} (x : Ext (tabF exc B P q) H H') : Ext (tabF exc B' P q) H H' := ⟨x.keep, x.live, x.inv⟩
theorem de_callT {exc : Cn → Value} {B : Addr → Prop} {P : Addr} {q : Str} {E : XK} {X : Cx} {fr : Bool} {e : Expr} {es : List Expr} {p pos : Pos} {x : Str} {k n : Nat} {m : List D → R D} {t : TA} {rs : RA} (G : KnownT X.prog X.w X.K X.mg X.base exc P q k x n m) (hr : Room k X.A) (hx : Passes (L2.CX X.prog X.w) X E) (ha : DA (tabF exc B P q) E X fr (e :: es) t rs)
    (hl : (e :: es).length = n := by rfl) (hg : Gl X x := by rfl) (hdb : (x == ("__debug__" : Str)) = false := by decide) (he : starEach (e :: es) X.env = (false, eval e X.env) :: starEach es X.env := by rfl) (hpl : (backTo pos (starEach es X.env)).any (·.1) = false := by rfl) :
    DE (tabF exc B P q) E X fr (.Call (.Name x p) (e :: es) [] pos) (tCall (spDT X.K exc P q n m) [] E t) (rCall n m rs) := by
  obtain ⟨f, fd, ps, hn, G, hm, hk, hb⟩ := G.ex
  refine ⟨pe_call G hr hg hm hk hb .nil hx ha.run hdb he hpl, ⟨fun {H0 Z O σ H ρ o Q} hh e er k => ha.snd.bnd hh e er fun ds vs H1 e1 x1 hh1 d1 => ?_⟩⟩
  split at e1
  · rename_i hlen
    rw [List.append_nil]
    refine ⟨fun a => B a ∨ (fr = true ∧ some a ∈ O), ds, o, fun p n z => hh1.fresh n (z.elim (fun z => .inl (.inl z)) .inr), hh1.ok, by rw [hp_tabO]; exact d1, hlen, e1, fun d v H' q s d2 => ?_, fun c H' q s => er c q H' (x1.trans (ext_tabO s))⟩
    rw [hp_tabO] at d2
    exact k d v H' q (x1.trans (ext_tabO s)) d2
  · cases e1
section
variable {Pr : Program} {w : World} {K : PySem.W.Frag} {mg : Str → Option Value} {base : Heap} {exc : Cn → Value} {P : Addr} {q : Str}
theorem body_T {X : Cx} {B : Addr → Prop} {E : XK} {N : List Str} {sts : List Stmt} {t : TS} {r : RS} {H : Hp} {vs : List V} {ds : List D} {o : Except Cn D} {Q : VK} (dd : DSs (tabF exc B P q) E X sts t r) (hB : ∀ p, H p = none → ¬ B p) (hT : TabS H P q) (hd : FitAll X.K (hp (tabF exc B P q) [] false H) vs ds) (hle : ds.length ≤ N.length) (he : fnSem N.length r ds = some o)
    (k1 : ∀ d v H', o = .ok d → Ext (tabF exc B P q) H H' → Fit X.K (hp (tabF exc B P q) [] false H') v d → Q v H') (k2 : ∀ c H', o = .error c → Ext (tabF exc B P q) H H' → E (exc c) none H') : t { nx := fun _ H' => Q .non H', rt := Q } (L2.start N vs) H := by
  have hh := holds_startG (K := X.K) (F := tabF exc B P q) (N := N) (fun p n z => by
    rcases z with z | z
    · exact hB p n z
    · obtain ⟨ps, e, _⟩ := hT
      rw [← z, n] at e
      cases e) hT hd hle
  unfold fnSem at he
  cases c : r (ds.map SV.val ++ List.replicate (N.length - ds.length) SV.no) with
  | none => rw [c] at he; cases he
  | some o1 =>
    rw [c] at he
    refine dd.snd.go hh c ?_
    cases o1 with
    | nx ρ => cases he; exact fun O σ H' h' => k1 _ _ _ rfl h'.ext .non
    | bk ρ => cases he
    | ct ρ => cases he
    | rt d => cases he; exact fun v H' e d' => k1 _ _ _ rfl e d'
    | ex c => cases he; exact fun H' e => k2 _ _ rfl e
theorem fn_okT {x : Str} {st : Stmt} {f : Addr} {fd : FuncData} {N ps : List Str} {k n : Nat} {r : RS} (F : Fun K x x st f fd) (hm : mg x = some (.ref f)) (hb : Binds K fd ps []) (S : FnScope N ps (defScope st)) (hn : ps.length = n)
    (body : ∀ (cdv : Value) (A : Around) (outer : List Env) (s : Shared) (H : Hp) (E : XK) (B : Addr → Prop), Room k (A.deeper (PyProof.Rows.envOfC x (defScope st) s.heap.objs.size f cdv)) →
      ∃ t, DSs (tabF exc B P q) E (cxOf (L2.CX Pr w) Pr w K mg base N x (defScope st) f cdv A outer s H E) (defBody st) t r) : KnownT Pr w K mg base exc P q (k + 1) x n (fnSem N.length r) := by
  refine ⟨f, fd, ps, hn, F.okX S (fun vs H Q E h => (spDT_len h).trans hn.symm) (fun cdv A outer s H vs Q E hr h => ?_), hm, F.kp, hb⟩
  obtain ⟨B, ds, o, hB, hT, hd, hl, he, k1, k2⟩ := h
  obtain ⟨t, dd⟩ := body cdv A outer s H E B hr
  have hle : ds.length ≤ N.length := by
    have z := congrArg List.length S.pre
    rw [List.length_take] at z
    omega
  exact ⟨t, dd.run, body_T dd hB hT hd hle he k1 k2⟩
/-- the def that owns the table -/
theorem fn_okTL {x : Str} {st : Stmt} {f c : Addr} {oc kV doc pm ct : Value} {an od : Option Addr} {osl : Array (Option Value)} {N ps : List Str} {k n : Nat} {r : RS}
    (lk : K.lookup f = some ⟨oc, od, .func (PySem.W.fnOf x x (defArgs st) (defBody st) (defScope st) .none kV doc pm an (.ref c) ct), osl⟩) (hcd : PySem.W.codeIn K (.ref c) x = true) (hm : mg x = some (.ref f)) (hk : PySem.W.keepIn K (.ref f) = true) (hb : Binds K (PySem.W.fnOf x x (defArgs st) (defBody st) (defScope st) .none kV doc pm an (.ref c) ct) ps []) (S : FnScope N ps (defScope st)) (hn : ps.length = n)
    (body : ∀ (A : Around) (outer : List Env) (s : Shared) (H : Hp) (E : XK) (B : Addr → Prop), Room k (A.deeper (PyProof.Rows.envOfC x (defScope st) s.heap.objs.size f (.ref c))) →
      ∃ t, DSs (tabF exc B P q) E (cxOf (L2.CX Pr w) Pr w K mg base N x (defScope st) f (.ref c) A outer s H E) (defBody st) t r) : KnownT Pr w K mg base exc P q (k + 1) x n (fnSem N.length r) := by
  refine ⟨f, _, ps, hn, fn_of lk hcd S (fun vs H Q E h => (spDT_len h).trans hn.symm) (fun A outer s H vs Q E hr h => ?_), hm, hk, hb⟩
  obtain ⟨B, ds, o, hB, hT, hd, hl, he, k1, k2⟩ := h
  obtain ⟨t, dd⟩ := body A outer s H E B hr
  have hle : ds.length ≤ N.length := by
    have z := congrArg List.length S.pre
    rw [List.length_take] at z
    omega
  exact ⟨t, dd.run, body_T dd hB hT hd hle he k1 k2⟩
/-- the law, under another def's table -/
theorem law_okT2 {x : Str} {st : Stmt} {f : Addr} {fd : FuncData} {N ps : List Str} {k : Nat} {r : RS} (F : Fun K x x st f fd) (S : FnScope N ps (defScope st)) (hn : ps.length = 1)
    (body : ∀ (cdv : Value) (A : Around) (outer : List Env) (s : Shared) (H : Hp) (E : XK) (B : Addr → Prop), Room k (A.deeper (PyProof.Rows.envOfC x (defScope st) s.heap.objs.size f cdv)) →
      ∃ t, DSs (tabF exc B P q) E (cxOf (L2.CX Pr w) Pr w K mg base N x (defScope st) f cdv A outer s H E) (defBody st) t r) :
    FnOk Pr w K mg base (L2.CX Pr w) (k + 1) f fd ps (spT K P (fnSem N.length r)) := by
  refine F.okX S (fun vs H Q E h => ?_) fun cdv A outer s H vs Q E hr h => ?_
  · obtain ⟨a, ns, rfl, _⟩ := h
    exact hn.symm
  · obtain ⟨a, ns, rfl, hs, ht, e, k1⟩ := h
    obtain ⟨t, dd⟩ := body cdv A outer s H E (fun _ => False) hr
    refine ⟨t, dd.run, ?_⟩
    have hle : 1 ≤ N.length := by
      have z := congrArg List.length S.pre
      rw [List.length_take] at z
      omega
    have hh := holds_tab (exc := exc) (q := q) hs ht hle
    unfold fnSem at e
    cases cr : r ([scriptD ns].map SV.val ++ List.replicate (N.length - 1) SV.no) with
    | none => simp only [List.length_singleton, cr] at e; cases e
    | some o1 =>
      simp only [List.length_singleton, cr] at e
      refine dd.snd.go hh cr ?_
      cases o1 with
      | nx ρ => cases e
      | bk ρ => cases e
      | ct ρ => cases e
      | ex c => cases e
      | rt d =>
        cases e
        intro v H' x d'
        rw [dp_bool d']
        exact k1 H'
end
/-! ### the end -/
/-- the table of the def tn is empty at the law's start -/
theorem walkL {l : PySem.W.OpenLaw} {k : Nat} {q : Program} {loose : List Str} {XP : (Str → Option Value) → Heap → Prop} {YP : World → Heap → Prop} {d : DefRec} {tn : Str} {K : Params → PySem.W.Frag} {m : List D → R D} (hn : l.most = some 63) (hdf : d.params.defaults = []) (hr : Room k callerA)
    (hrec : ∃ dd, (recsOf q).find? (fun e => e.name == tn) = some dd) (hY : ∀ (w : World) (h : Heap), YP w h → (K w.params).In h) (hm : ∀ ns : List Int, ns.length ≤ 63 → m [scriptD ns] = some (.ok (.bool true)))
    (F : ∀ (w : World) (mg : Str → Option Value) (fa : Addr) (h : Heap), (K w.params).In h → h.Ns mainGlobals mg → mg d.name = some (.ref fa) →
      ∃ (fd : FuncData) (c P : Addr), PySem.W.tabIn (K w.params) tn = some (c, P) ∧ (K w.params).lookup P = none ∧ (∀ (s : Shared) (u : Value), BindsTo s fd ⟨[u], []⟩ [("script", u)]) ∧
        ∀ base : Heap, (K w.params).In base → base.Ns mainGlobals mg → TabB base mg c P → FnOk l.prog w (K w.params) mg base (L2.CX l.prog w) k fa fd ["script"] (spT (K w.params) P m)) :
    PySem.W.WalkO q loose XP YP l.row.toRowW d [] (fun f vs => PySem.call f vs) := by
  refine Att.attach_callB hn hdf fun w s₀ s₁ mg mb fa o pm cd doc a vs ns G Y ho hd hcd hmg hobj hints hlen hbits hg => ?_
  have KX := hY w _ Y
  obtain ⟨fd, c, P, ht, hp, hb, hF⟩ := F w mg fa _ KX G.T.g hmg
  obtain ⟨dd, hrec⟩ := hrec
  obtain ⟨hc, hP⟩ := PySem.W.tab_of G.T KX hrec ht
  refine law_callTs (cs := [(c, P)]) (sp := spT (K w.params) P m) KX G.T.g G.T.b G.T.builtins G.T.nolimit hg (fun p z => ?_) (fun p z => ?_) (fun p z => ?_) G.T.bmain hobj hints (Nat.le_trans hlen (by decide)) hr (fun base k1 k2 k3 => hF base k1 k2 (k3 (c, P) List.mem_cons_self)) hb (fun H hH hS => ⟨a, ns, rfl, hS, hH (c, P) List.mem_cons_self, hm ns hlen, fun _ => rfl⟩) fun H e s' z => ?_
  · rw [List.mem_singleton.mp z]; exact hP
  · rw [List.mem_singleton.mp z]; exact hp
  · rw [List.mem_singleton.mp z]; exact hc
  · obtain ⟨_, _, _, _, _, _, _, _, _, _, _, _, z⟩ := z
    exact z
end DL
set_option Elab.async false
set_option linter.all false
set_option maxRecDepth 100000
namespace B
open PySem L2 DL PyProof.Rows
noncomputable section
def k_LINE : D := .str (Str.ofString "line")
def k_BORDERS : D := .tuple ([Str.ofString "open", Str.ofString "next", Str.ofString "close"].map PyData.str)
def k_LETTERS : D := .str (Str.ofString "abcdefghijklmnopqrstuvwxyz")
def k_MOST_NAME : D := .int 4
def k_MOST_LINE : D := .int 12
def k_MOST_ROWS : D := .int 14
def b_is_name : RS := (sRet (rAndV (rIsI "str" (rVar 0)) (rAndV (rChain leD leD (rC (.int 1)) (rFlat (rCl lenD (rCons (rVar 0) rNil))) (rC k_MOST_NAME)) (rCl allD (rCons (rLc (rSeq (rVar 0)) (rgName 1) rYes (rOp (inD false) (rVar 1) (rC k_LETTERS)) [1]) rNil)))))
def m_is_name : List D → R D := fnSem 2 b_is_name
def b_is_line : RS := (sRet (rAndV (rIsI "str" (rVar 0)) (rAndV (rOp leD (rFlat (rCl lenD (rCons (rVar 0) rNil))) (rC k_MOST_LINE)) (rCl allD (rCons (rLc (rSeq (rVar 0)) (rgName 1) rYes (rChain leD leD (rC (.str (Str.ofString " "))) (rVar 1) (rC (.str (Str.ofString "~")))) [1]) rNil)))))
def m_is_line : List D → R D := fnSem 2 b_is_line
def b_is_border : RS := (sSeq (sIf (rOr (rNt (rTst (rIsI "tuple" (rVar 0)))) (rOr (rTst (rOp neD (rFlat (rCl lenD (rCons (rVar 0) rNil))) (rC (.int 2)))) (rNt (rTst (rIsI "str" (rOp ixD (rVar 0) (rC (.int 0)))))))) (sRet (rC (.bool false))) sNil) (sRet (rAndV (rOp (inD false) (rOp ixD (rVar 0) (rC (.int 0))) (rC k_BORDERS)) (rCall 1 m_is_name (rCons (rOp ixD (rVar 0) (rC (.int 1))) rNil)))))
def m_is_border : List D → R D := fnSem 1 b_is_border
def b_is_row : RS := (sSeq (sIf (rTst (rCall 1 m_is_border (rCons (rVar 0) rNil))) (sRet (rC (.bool true))) sNil) (sRet (rAndV (rIsI "tuple" (rVar 0)) (rAndV (rOp eqD (rFlat (rCl lenD (rCons (rVar 0) rNil))) (rC (.int 2))) (rAndV (rOp eqD (rOp ixD (rVar 0) (rC (.int 0))) (rC k_LINE)) (rCall 1 m_is_line (rCons (rOp ixD (rVar 0) (rC (.int 1))) rNil)))))))
def m_is_row : List D → R D := fnSem 1 b_is_row
def b_are_rows : RS := (sRet (rAndV (rIsI "tuple" (rVar 0)) (rAndV (rOp leD (rFlat (rCl lenD (rCons (rVar 0) rNil))) (rC k_MOST_ROWS)) (rCl allD (rCons (rLc (rSeq (rVar 0)) (rgName 1) rYes (rCall 1 m_is_row (rCons (rVar 1) rNil)) [1]) rNil)))))
def m_are_rows : List D → R D := fnSem 2 b_are_rows
def b_is_tree (g_is_tree : List D → R D) (g_is_letter : List D → R D) : RS := (sSeq (sIf (rNt (rTst (rIsI "tuple" (rVar 0)))) (sRet (rC (.bool false))) sNil) (sRet (rCl allD (rCons (rLc (rSeq (rVar 0)) (rgName 1) rYes (rOrV (rCall 1 m_is_line (rCons (rVar 1) rNil)) (rCall 1 g_is_letter (rCons (rVar 1) rNil))) [1]) rNil))))
def b_is_letter (g_is_tree : List D → R D) (g_is_letter : List D → R D) : RS := (sSeq (sIf (rOr (rNt (rTst (rIsI "tuple" (rVar 0)))) (rOr (rTst (rOp neD (rFlat (rCl lenD (rCons (rVar 0) rNil))) (rC (.int 2)))) (rNt (rTst (rCall 1 m_is_name (rCons (rOp ixD (rVar 0) (rC (.int 0))) rNil)))))) (sRet (rC (.bool false))) sNil) (sRet (rAndV (rIsI "tuple" (rOp ixD (rVar 0) (rC (.int 1)))) (rAndV (rOp gtD (rFlat (rCl lenD (rCons (rOp ixD (rVar 0) (rC (.int 1))) rNil))) (rC (.int 0))) (rCl allD (rCons (rLc (rSeq (rOp ixD (rVar 0) (rC (.int 1)))) (rgName 1) rYes (rCall 1 g_is_tree (rCons (rVar 1) rNil)) [1]) rNil))))))
def r_is_tree_is_letter : Nat → (List D → R D) × (List D → R D)
  | 0 => (fun _ => none, fun _ => none)
  | n + 1 => (fnSem 2 (b_is_tree ((r_is_tree_is_letter n).1) ((r_is_tree_is_letter n).2)), fnSem 2 (b_is_letter ((r_is_tree_is_letter n).1) ((r_is_tree_is_letter n).2)))
def m_is_tree (n : Nat) : List D → R D := (r_is_tree_is_letter n).1
def m_is_letter (n : Nat) : List D → R D := (r_is_tree_is_letter n).2
theorem m_is_tree_zero : m_is_tree 0 = fun _ => none := rfl
theorem m_is_tree_succ (n : Nat) : m_is_tree (n + 1) = fnSem 2 (b_is_tree (m_is_tree n) (m_is_letter n)) := rfl
theorem m_is_letter_zero : m_is_letter 0 = fun _ => none := rfl
theorem m_is_letter_succ (n : Nat) : m_is_letter (n + 1) = fnSem 2 (b_is_letter (m_is_tree n) (m_is_letter n)) := rfl
def b__law_cell_at : RS := (sSeq (sIf (rTst (rOp ltD (rVar 1) (rFlat (rCl lenD (rCons (rVar 0) rNil))))) (sRet (rOp ixD (rVar 0) (rVar 1))) sNil) (sRet (rC (.int 0))))
def m__law_cell_at : List D → R D := fnSem 2 b__law_cell_at
def b__law_mixed : RS := (sSeq (sSet 2 (rOp modD (rOp mulD (rOp addD (rOp addD (rCall 2 m__law_cell_at (rCons (rVar 0) (rCons (rVar 1) rNil))) (rOp mulD (rC (.int 7919)) (rVar 1))) (rC (.int 1))) (rC (.int 48271))) (rC (.int 2147483647)))) (sRet (rOp modD (rOp addD (rOp addD (rOp mulD (rVar 2) (rVar 2)) (rOp mulD (rC (.int 7)) (rVar 2))) (rVar 1)) (rC (.int 2147483629)))))
def m__law_mixed : List D → R D := fnSem 3 b__law_mixed
def b__law_drawn : RS := (sSeq (sSet 2 (rOp modD (rOp mulD (rOp addD (rOp addD (rVar 0) (rOp mulD (rC (.int 104729)) (rVar 1))) (rC (.int 17))) (rC (.int 69621))) (rC (.int 2147483647)))) (sRet (rOp modD (rOp addD (rOp addD (rOp mulD (rVar 2) (rVar 2)) (rOp mulD (rC (.int 3)) (rVar 2))) (rVar 1)) (rC (.int 2147483629)))))
def m__law_drawn : List D → R D := fnSem 3 b__law_drawn
def b__law_row : RS := (sSeq (sSet 2 (rOp ixD (rTup (rCons (rC (.str (Str.ofString "line"))) (rCons (rC (.str (Str.ofString "open"))) (rCons (rC (.str (Str.ofString "close"))) (rCons (rC (.str (Str.ofString "next"))) (rCons (rC (.str (Str.ofString "open"))) (rCons (rC (.str (Str.ofString "close"))) (rCons (rC (.str (Str.ofString "line"))) rNil)))))))) (rOp modD (rOp fdivD (rVar 0) (rC (.int 16))) (rC (.int 7))))) (sSeq (sIf (rTst (rOp eqD (rVar 2) (rC (.str (Str.ofString "line"))))) (sRet (rTup (rCons (rVar 2) (rCons (rOp ixD (rTup (rCons (rC (.str (Str.ofString ""))) (rCons (rC (.str (Str.ofString "a"))) (rCons (rC (.str (Str.ofString "x y"))) (rCons (rC (.str (Str.ofString "[a"))) (rCons (rC (.str (Str.ofString "hello"))) (rCons (rC (.str (Str.ofString "~ ~"))) rNil))))))) (rOp modD (rOp fdivD (rVar 0) (rC (.int 256))) (rC (.int 6)))) rNil)))) sNil) (sRet (rTup (rCons (rVar 2) (rCons (rOp ixD (rTup (rCons (rC (.str (Str.ofString "a"))) (rCons (rC (.str (Str.ofString "b"))) (rCons (rC (.str (Str.ofString "cd"))) rNil)))) (rOp modD (rOp fdivD (rVar 0) (rC (.int 2048))) (rVar 1))) rNil))))))
def m__law_row : List D → R D := fnSem 3 b__law_row
def b__law_rows : RS := (sSeq (sSet 2 (rOp addD (rC (.int 1)) (rOp modD (rOp fdivD (rVar 0) (rC (.int 16))) (rC (.int 3))))) (sRet (rCl tupleD (rCons (rLc (rRange1 (rCons (rOp modD (rVar 0) (rOp addD (rVar 1) (rC (.int 1)))) rNil)) (rgName 3) rYes (rCall 2 m__law_row (rCons (rCall 2 m__law_drawn (rCons (rVar 0) (rCons (rOp addD (rC (.int 10)) (rVar 3)) rNil))) (rCons (rVar 2) rNil))) [3]) rNil))))
def m__law_rows : List D → R D := fnSem 4 b__law_rows
def lp__law_tree_0 (g__law_tree : List D → R D) : RS := (sSeq (sSet 4 (rCall 2 m__law_drawn (rCons (rVar 0) (rCons (rOp addD (rC (.int 30)) (rVar 3)) rNil)))) (sIf (rAnd (rTst (rOp gtD (rVar 1) (rC (.int 0)))) (rTst (rOp eqD (rOp modD (rOp fdivD (rVar 4) (rC (.int 16))) (rC (.int 2))) (rC (.int 0))))) (sSeq (sSet 5 (rCl tupleD (rCons (rLc (rRange1 (rCons (rOp addD (rC (.int 1)) (rOp modD (rOp fdivD (rVar 4) (rC (.int 32))) (rC (.int 3)))) rNil)) (rgName 6) rYes (rCall 2 g__law_tree (rCons (rCall 2 m__law_drawn (rCons (rVar 4) (rCons (rVar 6) rNil))) (rCons (rOp subD (rVar 1) (rC (.int 1))) rNil))) [6]) rNil))) (sSet 2 (rOp addD (rVar 2) (rTup (rCons (rTup (rCons (rOp ixD (rTup (rCons (rC (.str (Str.ofString "a"))) (rCons (rC (.str (Str.ofString "b"))) (rCons (rC (.str (Str.ofString "cd"))) rNil)))) (rOp modD (rOp fdivD (rVar 4) (rC (.int 128))) (rC (.int 3)))) (rCons (rVar 5) rNil))) rNil))))) (sSet 2 (rOp addD (rVar 2) (rTup (rCons (rOp ixD (rTup (rCons (rC (.str (Str.ofString ""))) (rCons (rC (.str (Str.ofString "a"))) (rCons (rC (.str (Str.ofString "x y"))) (rCons (rC (.str (Str.ofString "[a"))) (rCons (rC (.str (Str.ofString "hello"))) (rCons (rC (.str (Str.ofString "]b"))) rNil))))))) (rOp modD (rOp fdivD (rVar 4) (rC (.int 128))) (rC (.int 6)))) rNil))))))
def b__law_tree (g__law_tree : List D → R D) : RS := (sSeq (sSet 2 (rTup rNil)) (sSeq (sFor (rRange1 (rCons (rOp modD (rOp fdivD (rVar 0) (rC (.int 16))) (rC (.int 4))) rNil)) (rgName 3) (lp__law_tree_0 g__law_tree)) (sRet (rVar 2))))
def r__law_tree : Nat → (List D → R D)
  | 0 => fun _ => none
  | n + 1 => fnSem 7 (b__law_tree (r__law_tree n))
def m__law_tree (n : Nat) : List D → R D := r__law_tree n
theorem m__law_tree_zero : m__law_tree 0 = fun _ => none := rfl
theorem m__law_tree_succ (n : Nat) : m__law_tree (n + 1) = fnSem 7 (b__law_tree (m__law_tree n)) := rfl
def b__law_is_name : RS := (sSeq (sIf (rOr (rNt (rTst (rIsI "str" (rVar 0)))) (rNt (rTst (rChain leD leD (rC (.int 1)) (rFlat (rCl lenD (rCons (rVar 0) rNil))) (rC (.int 4)))))) (sRet (rC (.bool false))) sNil) (sRet (rOp eqD (rLc (rSeq (rVar 0)) (rgName 1) (rNt (rTst (rChain leD leD (rC (.str (Str.ofString "a"))) (rVar 1) (rC (.str (Str.ofString "z")))))) (rVar 1) [1]) (rLst rNil))))
def m__law_is_name : List D → R D := fnSem 2 b__law_is_name
def b__law_is_text : RS := (sRet (rAndV (rIsI "str" (rVar 0)) (rAndV (rOp leD (rFlat (rCl lenD (rCons (rVar 0) rNil))) (rC (.int 12))) (rOp eqD (rLc (rSeq (rVar 0)) (rgName 1) (rNt (rTst (rChain leD leD (rC (.str (Str.ofString " "))) (rVar 1) (rC (.str (Str.ofString "~")))))) (rVar 1) [1]) (rLst rNil)))))
def m__law_is_text : List D → R D := fnSem 2 b__law_is_text
def lp__law_are_rows_0 : RS := (sSeq (sIf (rOr (rNt (rTst (rIsI "tuple" (rVar 1)))) (rOr (rTst (rOp neD (rFlat (rCl lenD (rCons (rVar 1) rNil))) (rC (.int 2)))) (rNt (rTst (rIsI "str" (rOp ixD (rVar 1) (rC (.int 0)))))))) (sRet (rC (.bool false))) sNil) (sSeq (sSet 2 (rAndV (rOp eqD (rOp ixD (rVar 1) (rC (.int 0))) (rC (.str (Str.ofString "line")))) (rCall 1 m__law_is_text (rCons (rOp ixD (rVar 1) (rC (.int 1))) rNil)))) (sIf (rAnd (rNt (rTst (rVar 2))) (rNt (rAnd (rTst (rOp (inD false) (rOp ixD (rVar 1) (rC (.int 0))) (rTup (rCons (rC (.str (Str.ofString "open"))) (rCons (rC (.str (Str.ofString "next"))) (rCons (rC (.str (Str.ofString "close"))) rNil)))))) (rTst (rCall 1 m__law_is_name (rCons (rOp ixD (rVar 1) (rC (.int 1))) rNil)))))) (sRet (rC (.bool false))) sNil)))
def b__law_are_rows : RS := (sSeq (sIf (rOr (rNt (rTst (rIsI "tuple" (rVar 0)))) (rTst (rOp gtD (rFlat (rCl lenD (rCons (rVar 0) rNil))) (rC (.int 14))))) (sRet (rC (.bool false))) sNil) (sSeq (sFor (rSeq (rVar 0)) (rgName 1) lp__law_are_rows_0) (sRet (rC (.bool true)))))
def m__law_are_rows : List D → R D := fnSem 3 b__law_are_rows
def lp__law_is_tree_0 (g__law_is_tree : List D → R D) : RS := (sIf (rNt (rTst (rCall 1 m__law_is_text (rCons (rVar 1) rNil)))) (sSeq (sIf (rOr (rNt (rTst (rIsI "tuple" (rVar 1)))) (rOr (rTst (rOp neD (rFlat (rCl lenD (rCons (rVar 1) rNil))) (rC (.int 2)))) (rNt (rTst (rCall 1 m__law_is_name (rCons (rOp ixD (rVar 1) (rC (.int 0))) rNil)))))) (sRet (rC (.bool false))) sNil) (sSeq (sIf (rOr (rNt (rTst (rIsI "tuple" (rOp ixD (rVar 1) (rC (.int 1)))))) (rTst (rOp eqD (rOp ixD (rVar 1) (rC (.int 1))) (rTup rNil)))) (sRet (rC (.bool false))) sNil) (sIf (rTst (rOp neD (rLc (rSeq (rOp ixD (rVar 1) (rC (.int 1)))) (rgName 2) (rNt (rTst (rCall 1 g__law_is_tree (rCons (rVar 2) rNil)))) (rVar 2) [2]) (rLst rNil))) (sRet (rC (.bool false))) sNil))) sNil)
def b__law_is_tree (g__law_is_tree : List D → R D) : RS := (sSeq (sIf (rNt (rTst (rIsI "tuple" (rVar 0)))) (sRet (rC (.bool false))) sNil) (sSeq (sFor (rSeq (rVar 0)) (rgName 1) (lp__law_is_tree_0 g__law_is_tree)) (sRet (rC (.bool true)))))
def r__law_is_tree : Nat → (List D → R D)
  | 0 => fun _ => none
  | n + 1 => fnSem 3 (b__law_is_tree (r__law_is_tree n))
def m__law_is_tree (n : Nat) : List D → R D := r__law_is_tree n
theorem m__law_is_tree_zero : m__law_is_tree 0 = fun _ => none := rfl
theorem m__law_is_tree_succ (n : Nat) : m__law_is_tree (n + 1) = fnSem 3 (b__law_is_tree (m__law_is_tree n)) := rfl
def b__law_edges : RS := (sSeq (sSet 1 (rOp modD (rVar 0) (rC (.int 3)))) (sSeq (sSet 2 (rLst (rCons (rOp mulD (rTup (rCons (rTup (rCons (rC (.str (Str.ofString "line"))) (rCons (rC (.str (Str.ofString "a"))) rNil))) rNil)) (rOp addD (rC (.int 13)) (rVar 1))) (rCons (rTup (rCons (rTup (rCons (rC (.str (Str.ofString "line"))) (rCons (rOp mulD (rC (.str (Str.ofString "x"))) (rOp addD (rC (.int 11)) (rVar 1))) rNil))) rNil)) (rCons (rTup (rCons (rTup (rCons (rC (.str (Str.ofString "open"))) (rCons (rOp addD (rSlc (rC (.str (Str.ofString "abcd"))) rNoP (rPart (rOp addD (rC (.int 2)) (rVar 1)))) (rC (.str (Str.ofString "e")))) rNil))) rNil)) rNil))))) (sSeq (sSet 2 (rOp addD (rVar 2) (rLst (rCons (rTup (rCons (rTup (rCons (rC (.str (Str.ofString "close"))) (rCons (rC (.str (Str.ofString ""))) rNil))) rNil)) (rCons (rTup (rCons (rTup (rCons (rC (.str (Str.ofString "line"))) (rCons (rC (.str (Str.ofString "a\nb"))) rNil))) rNil)) (rCons (rTup (rCons (rTup (rCons (rC (.str (Str.ofString "next"))) (rCons (rC (.str (Str.ofString "a1"))) rNil))) rNil)) rNil)))))) (sSeq (sSet 2 (rOp addD (rVar 2) (rLst (rCons (rTup (rCons (rTup (rCons (rC (.str (Str.ofString "shut"))) (rCons (rC (.str (Str.ofString "a"))) rNil))) rNil)) (rCons (rTup (rCons (rOp mulD (rC (.str (Str.ofString "x"))) (rOp addD (rC (.int 11)) (rVar 1))) rNil)) rNil))))) (sRet (rOp addD (rVar 2) (rLst (rCons (rTup (rCons (rTup (rCons (rOp addD (rSlc (rC (.str (Str.ofString "abcd"))) rNoP (rPart (rOp addD (rC (.int 2)) (rVar 1)))) (rC (.str (Str.ofString "e")))) (rCons (rTup (rCons (rTup rNil) rNil)) rNil))) rNil)) (rCons (rTup (rCons (rTup (rCons (rC (.str (Str.ofString "a"))) (rCons (rTup rNil) rNil))) rNil)) (rCons (rTup (rCons (rTup (rCons (rC (.str (Str.ofString "a"))) (rCons (rTup (rCons (rTup rNil) (rCons (rTup (rCons (rC (.str (Str.ofString "b"))) rNil)) rNil))) rNil))) rNil)) (rCons (rTup (rCons (rTup (rCons (rC (.str (Str.ofString "a"))) (rCons (rTup (rCons (rC (.str (Str.ofString "b"))) rNil)) rNil))) rNil)) rNil)))))))))))
def m__law_edges : List D → R D := fnSem 3 b__law_edges
def lp__law_places_in_0 (g__law_places_in : List D → R D) : RS := (sSet 2 (rOp addD (rVar 2) (rCall 2 g__law_places_in (rCons (rVar 4) (rCons (rOp addD (rVar 1) (rTup (rCons (rVar 3) rNil))) rNil)))))
def b__law_places_in (g__law_places_in : List D → R D) : RS := (sSeq (sSet 2 (rLst (rCons (rVar 1) rNil))) (sSeq (sIf (rTst (rIsI "tuple" (rVar 0))) (sFor (rEnum (rCons (rVar 0) rNil)) (rgTup 2 (rgCons (rgName 3) (rgCons (rgName 4) rgNil))) (lp__law_places_in_0 g__law_places_in)) sNil) (sRet (rVar 2))))
def r__law_places_in : Nat → (List D → R D)
  | 0 => fun _ => none
  | n + 1 => fnSem 5 (b__law_places_in (r__law_places_in n))
def m__law_places_in (n : Nat) : List D → R D := r__law_places_in n
theorem m__law_places_in_zero : m__law_places_in 0 = fun _ => none := rfl
theorem m__law_places_in_succ (n : Nat) : m__law_places_in (n + 1) = fnSem 5 (b__law_places_in (m__law_places_in n)) := rfl
def b__law_otherwise : RS := (sSeq (sIf (rTst (rIsI "tuple" (rVar 0))) (sSeq (sSet 2 (rLst (rCons (rCl listD (rCons (rVar 0) rNil)) (rCons (rCl listD (rCons (rVar 0) rNil)) (rCons (rOp addD (rVar 0) (rSlc (rVar 0) rNoP (rPart (rC (.int 1))))) rNil))))) (sRet (rOp ixD (rOp addD (rVar 2) (rLst (rCons (rSlc (rVar 0) (rPart (rC (.int 1))) rNoP) (rCons (rLst (rCons (rVar 0) rNil)) rNil)))) (rOp modD (rVar 1) (rC (.int 5)))))) sNil) (sSeq (sIf (rTst (rIsI "bool" (rVar 0))) (sRet (rOp ixD (rLst (rCons (rCl intD (rCons (rVar 0) rNil)) (rCons (rC .none) (rCons (rCl strD (rCons (rVar 0) rNil)) rNil)))) (rOp modD (rVar 1) (rC (.int 3))))) sNil) (sSeq (sIf (rTst (rIsI "int" (rVar 0))) (sSeq (sSet 2 (rLst (rCons (rC (.bool true)) (rCons (rC .none) (rCons (rCl strD (rCons (rVar 0) rNil)) (rCons (rTup (rCons (rVar 0) rNil)) rNil)))))) (sRet (rOp ixD (rOp addD (rVar 2) (rLst (rCons (rOp subD (rUn negD (rC (.int 1))) (rVar 0)) rNil))) (rOp modD (rVar 1) (rC (.int 5)))))) sNil) (sRet (rOp ixD (rLst (rCons (rC .none) (rCons (rTup (rCons (rVar 0) rNil)) (rCons (rLst (rCons (rVar 0) rNil)) (rCons (rC (.str (Str.ofString ""))) (rCons (rC (.int 0)) rNil)))))) (rOp modD (rVar 1) (rC (.int 5))))))))
def m__law_otherwise : List D → R D := fnSem 3 b__law_otherwise
def b__law_put_at (f : Addr) (h g__law_put_at : List D → R D) : RS := (sSeq (sIf (rTst (rOp eqD (rVar 1) (rTup rNil))) (sRet (rLam 2 f h (rCons (rVar 0) rNil))) sNil) (sSeq (sSet 3 (rOp ixD (rVar 1) (rC (.int 0)))) (sSeq (sSet 4 (rPut 2 f g__law_put_at (rOp ixD (rVar 0) (rVar 3)) (rSlc (rVar 1) (rPart (rC (.int 1))) rNoP))) (sRet (rOp addD (rOp addD (rSlc (rVar 0) rNoP (rPart (rVar 3))) (rTup (rCons (rVar 4) rNil))) (rSlc (rVar 0) (rPart (rOp addD (rVar 3) (rC (.int 1)))) rNoP))))))
def m__law_put_at : Nat → Addr → (List D → R D) → List D → R D
  | 0 => fun _ _ _ => none
  | n + 1 => fun f h => fnSemP 5 f (b__law_put_at f h (m__law_put_at n f h))
def lb__law_spoilt : RE := (rCall 2 m__law_otherwise (rCons (rVar 0) (rCons (rOp fdivD (rVar 1) (rC (.int 4096))) rNil)))
def b__law_spoilt : RS := (sSeq (sSet 3 (rCall 2 (m__law_places_in 14) (rCons (rVar 0) (rCons (rTup rNil) rNil)))) (sSeq (sSet 4 (rOp ixD (rVar 3) (rOp modD (rVar 1) (rFlat (rCl lenD (rCons (rVar 3) rNil)))))) (sRet (rSp 1 (fun f n => m__law_put_at 14 f (lamSem lb__law_spoilt n)) (rVar 0) (rVar 4)))))
def m__law_spoilt : List D → R D := fnSem 5 b__law_spoilt
def lp__law_once_0 : RS := (sSeq (sSet 5 (rCall 1 m_are_rows (rCons (rVar 4) rNil))) (sSeq (sIf (rOr (rNt (rTst (rIsI "bool" (rVar 5)))) (rTst (rOp neD (rVar 5) (rCall 1 m__law_are_rows (rCons (rVar 4) rNil))))) (sRet (rC (.bool false))) sNil) (sSeq (sSet 5 (rCall 1 (m_is_tree 20) (rCons (rVar 4) rNil))) (sIf (rOr (rNt (rTst (rIsI "bool" (rVar 5)))) (rTst (rOp neD (rVar 5) (rCall 1 (m__law_is_tree 20) (rCons (rVar 4) rNil))))) (sRet (rC (.bool false))) sNil))))
def b__law_once : RS := (sSeq (sSet 1 (rCall 2 m__law_mixed (rCons (rVar 0) (rCons (rC (.int 0)) rNil)))) (sSeq (sSet 2 (rCall 2 m__law_rows (rCons (rCall 2 m__law_mixed (rCons (rVar 0) (rCons (rC (.int 1)) rNil))) (rCons (rC (.int 14)) rNil)))) (sSeq (sSet 3 (rCall 2 (m__law_tree 12) (rCons (rCall 2 m__law_mixed (rCons (rVar 0) (rCons (rC (.int 2)) rNil))) (rCons (rC (.int 3)) rNil)))) (sSeq (sIf (rOr (rTst (rOp notD (rCall 1 m_are_rows (rCons (rVar 2) rNil)) (rC (.bool true)))) (rTst (rOp notD (rCall 1 (m_is_tree 20) (rCons (rVar 3) rNil)) (rC (.bool true))))) (sRet (rC (.bool false))) sNil) (sSeq (sIf (rTst (rOp gtD (rOp modD (rVar 1) (rC (.int 3))) (rC (.int 0)))) (sSeq (sSet 2 (rCall 3 m__law_spoilt (rCons (rVar 2) (rCons (rCall 2 m__law_mixed (rCons (rVar 0) (rCons (rC (.int 3)) rNil))) (rCons (rOp modD (rOp fdivD (rVar 1) (rC (.int 16))) (rC (.int 3))) rNil))))) (sSet 3 (rCall 3 m__law_spoilt (rCons (rVar 3) (rCons (rCall 2 m__law_mixed (rCons (rVar 0) (rCons (rC (.int 4)) rNil))) (rCons (rOp modD (rOp fdivD (rVar 1) (rC (.int 64))) (rC (.int 6))) rNil)))))) sNil) (sSeq (sFor (rSeq (rOp addD (rCall 1 m__law_edges (rCons (rCall 2 m__law_mixed (rCons (rVar 0) (rCons (rC (.int 5)) rNil))) rNil)) (rLst (rCons (rVar 2) (rCons (rVar 3) rNil))))) (rgName 4) lp__law_once_0) (sRet (rC (.bool true)))))))))
def m__law_once : List D → R D := fnSem 6 b__law_once
def lp_law_0 : RS := (sIf (rNt (rTst (rCall 1 m__law_once (rCons (rOp addD (rLc (rSeq (rVar 0)) (rgName 2) rYes (rOp addD (rVar 2) (rOp mulD (rC (.int 104729)) (rVar 1))) [2]) (rLst (rCons (rVar 1) rNil))) rNil)))) (sRet (rC (.bool false))) sNil)
def b_law : RS := (sSeq (sFor (rRange1 (rCons (rC (.int 8)) rNil)) (rgName 1) lp_law_0) (sRet (rC (.bool true))))
def m_law : List D → R D := fnSem 3 b_law
end
end B
set_option Elab.async false
set_option linter.all false
set_option maxRecDepth 100000
namespace B
open PySem L2 DL PyProof.Rows
theorem letters_cps : (Str.ofString "abcdefghijklmnopqrstuvwxyz").cps.toList = List.range' 97 26 := by decide +kernel
def nameS (z : Str) : Bool := decide (1 ≤ z.length) && (decide (z.length ≤ 4) && z.cps.toList.all fun c => decide (97 ≤ c) && decide (c ≤ 122))
def nameD : D → Bool
  | .str z => nameS z
  | _ => false
def lineS (z : Str) : Bool := decide (z.length ≤ 12) && z.cps.toList.all fun c => decide (32 ≤ c) && decide (c ≤ 126)
def lineD : D → Bool
  | .str z => lineS z
  | _ => false
theorem mem_letters (c : Nat) : decide (c ∈ (Str.ofString "abcdefghijklmnopqrstuvwxyz").cps.toList) = (decide (97 ≤ c) && decide (c ≤ 122)) := by
  rw [letters_cps, ← Bool.decide_and]
  apply decide_eq_decide.mpr
  rw [List.mem_range'_1]
  omega
theorem lt_one (a b : Nat) : decide ([a] < [b]) = decide (a < b) := by
  apply decide_eq_decide.mpr
  simp [List.cons_lt_cons_iff]
theorem cps_one (s : String) (c : Nat) (h : (Str.ofString s).cps.toList = [c]) : (Str.ofString s).cps.toList = [c] := h
theorem cps_a : (Str.ofString "a").cps.toList = [97] := by decide +kernel
theorem cps_z : (Str.ofString "z").cps.toList = [122] := by decide +kernel
theorem cps_blank : (Str.ofString " ").cps.toList = [32] := by decide +kernel
theorem cps_tilde : (Str.ofString "~").cps.toList = [126] := by decide +kernel
/-- a short text -/
def Short (d : D) : Prop := ∀ z, d = .str z → z.length ≤ 1000
/-- a comprehension over a text's signs -/
theorem lc_text {re : RE} {ρ : En} {i : Nat} {z : Str} {p : Nat → Bool} (h : ∀ c, re (ρ.set i (.val (.str ⟨#[c]⟩))) = some (.ok (.bool (p c)))) :
    lcL (rgName i) rYes re ρ (z.cps.toList.map fun c => .str ⟨#[c]⟩) = some (z.cps.toList.map fun c => .bool (p c)) := by
  have q : ∀ l : List Nat, lcL (rgName i) rYes re ρ (l.map fun c => .str ⟨#[c]⟩) = some (l.map fun c => .bool (p c)) := by
    intro l
    induction l with
    | nil => rfl
    | cons c l ih => simp [lcL, h, ih]
  exact q _
theorem all_bools {α : Type} (p : α → Bool) (l : List α) : allD [.list (l.map fun c => .bool (p c))] = some (.bool (l.all p)) := by
  have q : ∀ l : List α, boolsD (l.map fun c => .bool (p c)) = some (l.map p) := by
    intro l
    induction l with
    | nil => rfl
    | cons c l ih => simp [boolsD, ih]
  simp only [allD, q, Option.map_some]
  congr 2
  rw [List.all_map]
  rfl
theorem is_name_sem (d : D) (h : Short d) : m_is_name [d] = some (.ok (.bool (nameD d))) := by
  cases d with
  | str z =>
    have hz := h z rfl
    have hz2 : z.length ≤ 1000000 := by omega
    have hz3 : z.cps.size ≤ 1000000 := hz2
    have e := lc_text (re := rOp (inD false) (rVar 1) (rC k_LETTERS)) (ρ := [SV.val (.str z), SV.no]) (i := 1) (z := z) (p := fun c => decide (97 ≤ c) && decide (c ≤ 122)) fun c => by
      simp only [← mem_letters]
      simp [inD, k_LETTERS]
    simp only [m_is_name, b_is_name, fnSem_ap]
    simp [isiB, tyName, lenD, hz2, flatD, rLc_ap, itemsD, hz3, e, all_bools, leD, cmpD, k_MOST_NAME, nameD, nameS]
    by_cases c1 : 1 ≤ z.length
    · by_cases c2 : z.length ≤ 4
      · simp [c1, c2, show (1 : Int) ≤ (z.length : Int) by omega, show (z.length : Int) ≤ 4 by omega]
      · simp [c1, c2, show (1 : Int) ≤ (z.length : Int) by omega, show ¬ (z.length : Int) ≤ 4 by omega]
    · simp [c1, show ¬ (1 : Int) ≤ (z.length : Int) by omega]
  | _ => simp [m_is_name, b_is_name, fnSem_ap, isiB, tyName, nameD]
theorem le_lo {s : String} {k c : Nat} (h : (Str.ofString s).cps.toList = [k]) : leD (.str (Str.ofString s)) (.str ⟨#[c]⟩) = some (.bool (decide (k ≤ c))) := by
  show some (PyData.bool (!decide ([c] < (Str.ofString s).cps.toList))) = _
  rw [h, lt_one]
  by_cases q : k ≤ c
  · simp [q]
  · simp [q, show c < k by omega]
theorem le_hi {s : String} {k c : Nat} (h : (Str.ofString s).cps.toList = [k]) : leD (.str ⟨#[c]⟩) (.str (Str.ofString s)) = some (.bool (decide (c ≤ k))) := by
  show some (PyData.bool (!decide ((Str.ofString s).cps.toList < [c]))) = _
  rw [h, lt_one]
  by_cases q : c ≤ k
  · simp [q]
  · simp [q, show k < c by omega]
theorem lenD_str {z : Str} (h : z.length ≤ 1000) : lenD [.str z] = some (.int (z.length : Nat)) := by
  simp [lenD, show z.length ≤ 1000000 by omega]
theorem is_line_sem (d : D) (h : Short d) : m_is_line [d] = some (.ok (.bool (lineD d))) := by
  cases d with
  | str z =>
    have hz := h z rfl
    have hz3 : z.cps.size ≤ 1000000 := Nat.le_trans hz (by decide)
    have e := lc_text (re := rChain leD leD (rC (.str (Str.ofString " "))) (rVar 1) (rC (.str (Str.ofString "~")))) (ρ := [SV.val (.str z), SV.no]) (i := 1) (z := z) (p := fun c => decide (32 ≤ c) && decide (c ≤ 126)) fun c => by
      simp [le_lo cps_blank, le_hi cps_tilde]
      by_cases c1 : 32 ≤ c <;> simp [c1]
    simp only [m_is_line, b_is_line, fnSem_ap]
    simp [isiB, tyName, lenD_str hz, rLc_ap, hz3, e, all_bools, k_MOST_LINE, lineD, lineS]
    by_cases c2 : z.length ≤ 12
    · simp [c2, show (z.length : Int) ≤ 12 by omega]
    · simp [c2, show ¬ (z.length : Int) ≤ 12 by omega]
  | _ => simp [m_is_line, b_is_line, fnSem_ap, isiB, tyName, lineD]
def good (L : Nat) : Nat → D → Bool
  | _, .none => true
  | _, .bool _ => true
  | _, .int i => decide (i.natAbs < 2 ^ 63)
  | _, .str z => decide (z.length ≤ L) && z.cps.toList.all fun c => decide (c < 128)
  | n + 1, .tuple xs => decide (xs.length ≤ L) && xs.all (good L n)
  | n + 1, .list xs => decide (xs.length ≤ L) && xs.all (good L n)
  | _, _ => false
theorem good_tup {L n : Nat} {xs : List D} : good L (n + 1) (.tuple xs) = true ↔ xs.length ≤ L ∧ ∀ x ∈ xs, good L n x = true := by
  simp [good]
theorem good_lst {L n : Nat} {xs : List D} : good L (n + 1) (.list xs) = true ↔ xs.length ≤ L ∧ ∀ x ∈ xs, good L n x = true := by
  simp [good]
theorem good_str {L n : Nat} {z : Str} : good L n (.str z) = true ↔ z.length ≤ L ∧ ∀ c ∈ z.cps.toList, c < 128 := by
  cases n <;> simp only [good, Bool.and_eq_true, decide_eq_true_eq, List.all_eq_true]
theorem good_int {L n : Nat} {i : Int} : good L n (.int i) = true ↔ i.natAbs < 2 ^ 63 := by
  cases n <;> simp [good]
theorem good_flat {L n m : Nat} {d : D} (f : flatD d = true) (h : good L n d = true) : good L m d = true := by
  cases d with
  | none => cases m <;> rfl
  | bool b => cases m <;> rfl
  | int i => exact good_int.mpr (good_int.mp h)
  | str z => exact good_str.mpr (good_str.mp h)
  | _ => cases f
theorem good_mono {L L' : Nat} (hL : L ≤ L') : ∀ {n m : Nat} {d : D}, n ≤ m → good L n d = true → good L' m d = true
  | n, m, .none, _, _ => by cases m <;> rfl
  | n, m, .bool _, _, _ => by cases m <;> rfl
  | n, m, .int _, _, h => good_int.mpr (good_int.mp h)
  | n, m, .str _, _, h => good_str.mpr ⟨Nat.le_trans (good_str.mp h).1 hL, (good_str.mp h).2⟩
  | 0, m, .tuple _, _, h => by simp [good] at h
  | 0, m, .list _, _, h => by simp [good] at h
  | n + 1, 0, .tuple _, l, _ => by omega
  | n + 1, 0, .list _, l, _ => by omega
  | n + 1, m + 1, .tuple xs, l, h => by
    have q := good_tup.mp h
    exact good_tup.mpr ⟨Nat.le_trans q.1 hL, fun x hx => good_mono hL (by omega) (q.2 x hx)⟩
  | n + 1, m + 1, .list xs, l, h => by
    have q := good_lst.mp h
    exact good_lst.mpr ⟨Nat.le_trans q.1 hL, fun x hx => good_mono hL (by omega) (q.2 x hx)⟩
  | 0, m, .dict _, _, h => by simp [good] at h
  | n + 1, m, .dict _, _, h => by simp [good] at h
theorem canLayAll_of {ds : List D} (h : ∀ x ∈ ds, x.canLay0 = true) : PyData.canLayAll0 ds = true := by
  induction ds with
  | nil => rfl
  | cons x xs ih => simp [PyData.canLayAll0, h x List.mem_cons_self, ih fun y hy => h y (List.mem_cons_of_mem _ hy)]
theorem depthAll_of {ds : List D} {n : Nat} (h : ∀ x ∈ ds, x.depth ≤ n) : PyData.depthAll ds ≤ n := by
  induction ds with
  | nil => exact Nat.zero_le _
  | cons x xs ih =>
    have a := h x List.mem_cons_self
    have b := ih fun y hy => h y (List.mem_cons_of_mem _ hy)
    simp only [PyData.depthAll]
    omega
theorem good_lay {L : Nat} : ∀ {n : Nat} {d : D}, good L n d = true → d.canLay0 = true ∧ d.depth ≤ n
  | n, .none, _ => by simp [PyData.canLay0, PyData.depth]
  | n, .bool _, _ => by simp [PyData.canLay0, PyData.depth]
  | n, .int _, _ => by simp [PyData.canLay0, PyData.depth]
  | n, .str z, h => by
    have q := (good_str.mp h).2
    refine ⟨?_, by simp [PyData.depth]⟩
    simp only [PyData.canLay0, PyData.strOk]
    rw [← Array.all_toList, List.all_eq_true]
    intro c hc
    have := q c hc
    simp
    omega
  | 0, .tuple _, h => by simp [good] at h
  | 0, .list _, h => by simp [good] at h
  | n + 1, .tuple xs, h => by
    have q := good_tup.mp h
    refine ⟨by simp only [PyData.canLay0]; exact canLayAll_of fun x hx => (good_lay (q.2 x hx)).1, ?_⟩
    have := depthAll_of fun x hx => (good_lay (q.2 x hx)).2
    simp only [PyData.depth]
    omega
  | n + 1, .list xs, h => by
    have q := good_lst.mp h
    refine ⟨by simp only [PyData.canLay0]; exact canLayAll_of fun x hx => (good_lay (q.2 x hx)).1, ?_⟩
    have := depthAll_of fun x hx => (good_lay (q.2 x hx)).2
    simp only [PyData.depth]
    omega
  | 0, .dict _, h => by simp [good] at h
  | n + 1, .dict _, h => by simp [good] at h
theorem good_shaped {L n : Nat} {d : D} (h : good L n d = true) (hn : n ≤ 64) : SeqAt.shaped d = true := by
  have q := good_lay h
  simp only [SeqAt.shaped, q.1, Bool.true_and, decide_eq_true_eq]
  omega
theorem good_short {L n : Nat} {d : D} (h : good L n d = true) (hL : L ≤ 1000) : Short d := fun z e => by
  subst e
  exact Nat.le_trans (good_str.mp h).1 hL
def sOpen : Str := Str.ofString "open"
def sNext : Str := Str.ofString "next"
def sClose : Str := Str.ofString "close"
def sLine : Str := Str.ofString "line"
def bordS (z : Str) : Bool := z == sOpen || z == sNext || z == sClose
def bordD : D → Bool
  | .tuple [.str w, n] => bordS w && nameD n
  | _ => false
def rowD : D → Bool
  | .tuple [.str w, n] => bordS w && nameD n || w == sLine && lineD n
  | _ => false
theorem shaped_borders : SeqAt.shaped k_BORDERS = true := by decide +kernel
theorem in_borders (z : Str) (h : SeqAt.shaped (.str z) = true) : inD false (.str z) k_BORDERS = some (.bool (bordS z)) := by
  have e : k_BORDERS = .tuple [.str sOpen, .str sNext, .str sClose] := rfl
  simp only [inD, e]
  rw [e] at *
  rw [if_pos ⟨h, by rw [← e]; exact shaped_borders⟩]
  simp [PyData.eqv, bordS, Bool.beq_comm, Bool.or_assoc]
theorem ix0 (a : D) (xs : List D) : ixD (.tuple (a :: xs)) (.int 0) = some a := by simp [ixD, atI, ixN]
theorem ix1 (a b : D) (xs : List D) : ixD (.tuple (a :: b :: xs)) (.int 1) = some b := by
  simp [ixD, atI, ixN]
  rw [if_pos (by omega)]
  rfl
theorem isi_str_not {d : D} (h : ∀ z, d ≠ .str z) : isiB "str" d = false := by
  cases d <;> first | rfl | exact absurd rfl (h _)
@[simp] theorem isi_ss (z : Str) : isiB "str" (.str z) = true := by simp [isiB, tyName]
theorem isi_tuple_not {d : D} (h : ∀ z, d ≠ .tuple z) : isiB "tuple" d = false := by
  cases d <;> first | rfl | exact absurd rfl (h _)
theorem bord_not {d : D} (h : ∀ w n, d ≠ .tuple [.str w, n]) : bordD d = false := by
  unfold bordD
  split
  · exact absurd rfl (h _ _)
  · rfl
theorem is_border_sem {n : Nat} (d : D) (h : good 1000 n d = true) (hn : n ≤ 60) : m_is_border [d] = some (.ok (.bool (bordD d))) := by
  cases d with
  | tuple xs =>
    cases n with
    | zero => simp [good] at h
    | succ n =>
      have q := good_tup.mp h
      match xs, q with
      | [], _ => simp [m_is_border, b_is_border, fnSem_ap, bordD]
      | [a], _ => simp [m_is_border, b_is_border, fnSem_ap, bordD]
      | a :: b :: c :: r, _ =>
        have e : ¬ ((r.length : Int) + 1 + 1 + 1 = 2) := by omega
        simp [m_is_border, b_is_border, fnSem_ap, bordD, e]
      | [a, b], q =>
        have ga := q.2 a (by simp)
        have gb := q.2 b (by simp)
        by_cases c : ∃ z, a = .str z
        · obtain ⟨z, rfl⟩ := c
          have hz := good_shaped ga (by omega)
          simp [m_is_border, b_is_border, fnSem_ap, ix0, ix1, in_borders z hz, is_name_sem b (good_short gb (by decide)), bordD]
          cases bordS z <;> simp
        · have e := isi_str_not fun z ez => c ⟨z, ez⟩
          simp [m_is_border, b_is_border, fnSem_ap, ix0, e]
          rw [bord_not fun w n ew => c ⟨w, by simp at ew; exact ew.1⟩]
  | _ => simp [m_is_border, b_is_border, fnSem_ap, isiB, tyName, bordD]
theorem row_bord (d : D) : rowD d = (bordD d || match d with | .tuple [.str w, n] => w == sLine && lineD n | _ => false) := by
  unfold rowD bordD
  split
  · rfl
  · simp
theorem eq_str {a b : Str} (ha : SeqAt.shaped (.str a) = true) (hb : SeqAt.shaped (.str b) = true) : eqD (.str a) (.str b) = some (.bool (a == b)) := by
  simp [eqD, ha, hb, PyData.eqv]
theorem eq_not_str {d : D} {z : Str} (hd : SeqAt.shaped d = true) (hz : SeqAt.shaped (.str z) = true) (h : ∀ z, d ≠ .str z) : eqD d (.str z) = some (.bool false) := by
  cases d <;> first | exact absurd rfl (h _) | simp [eqD, hd, hz, PyData.eqv]
theorem shaped_line : SeqAt.shaped (.str sLine) = true := by decide +kernel
theorem is_row_sem {n : Nat} (d : D) (h : good 1000 n d = true) (hn : n ≤ 60) : m_is_row [d] = some (.ok (.bool (rowD d))) := by
  have eb := is_border_sem d h hn
  have kl : k_LINE = .str sLine := rfl
  rw [row_bord]
  cases cb : bordD d with
  | true => rw [cb] at eb; simp [m_is_row, b_is_row, fnSem_ap, eb]
  | false =>
    rw [cb] at eb
    cases d with
    | tuple xs =>
      cases n with
      | zero => simp [good] at h
      | succ n =>
        have q := good_tup.mp h
        match xs, q, eb with
        | [], _, eb => simp [m_is_row, b_is_row, fnSem_ap, eb]
        | [a], _, eb => simp [m_is_row, b_is_row, fnSem_ap, eb]
        | a :: b :: c :: r, _, eb =>
          have e : ¬ ((r.length : Int) + 1 + 1 + 1 = 2) := by omega
          simp [m_is_row, b_is_row, fnSem_ap, eb, e]
        | [a, b], q, eb =>
          have ga := q.2 a (by simp)
          have gb := q.2 b (by simp)
          have sa := good_shaped ga (by omega)
          by_cases c : ∃ z, a = .str z
          · obtain ⟨z, rfl⟩ := c
            simp [m_is_row, b_is_row, fnSem_ap, eb, ix0, ix1, kl, eq_str sa shaped_line, is_line_sem b (good_short gb (by decide))]
            by_cases c : z = sLine <;> simp [c]
          · have e := eq_not_str sa shaped_line fun z ez => c ⟨z, ez⟩
            simp [m_is_row, b_is_row, fnSem_ap, eb, ix0, ix1, kl, e]
            split
            · rename_i w n ew
              simp at ew
              exact absurd ⟨w, ew.1⟩ c
            · rfl
    | _ => simp [m_is_row, b_is_row, fnSem_ap, eb, isiB, tyName]
def rowsD : D → Bool
  | .tuple xs => decide (xs.length ≤ 14) && xs.all rowD
  | _ => false
theorem are_rows_sem {n : Nat} (d : D) (h : good 1000 n d = true) (hn : n ≤ 60) : m_are_rows [d] = some (.ok (.bool (rowsD d))) := by
  cases d with
  | tuple xs =>
    cases n with
    | zero => simp [good] at h
    | succ n =>
      have q := good_tup.mp h
      have e : lcL (rgName 1) rYes (rCall 1 m_is_row (rCons (rVar 1) rNil)) [SV.val (.tuple xs), SV.no] xs = some (xs.map fun d => .bool (rowD d)) := lc_map fun d hd => ⟨_, rfl, by
        simp [is_row_sem d (q.2 d hd) (by omega)]⟩
      have hl : xs.length ≤ 1000000 := by omega
      simp [m_are_rows, b_are_rows, fnSem_ap, k_MOST_ROWS, rLc_ap, hl, e, all_bools, rowsD]
      by_cases c : xs.length ≤ 14
      · simp [c, show (xs.length : Int) ≤ 14 by omega]
      · simp [c, show ¬ (xs.length : Int) ≤ 14 by omega]
  | _ => simp [m_are_rows, b_are_rows, fnSem_ap, isiB, tyName, rowsD]
theorem eq_nil_list (ds : List D) (h : SeqAt.shaped (.list ds) = true) : eqD (.list ds) (.list []) = some (.bool ds.isEmpty) := by
  have e : SeqAt.shaped (.list []) = true := by decide
  cases ds <;> simp [eqD, h, e, PyData.eqv, PyData.eqvAll]
theorem ne_nil_list (ds : List D) (h : SeqAt.shaped (.list ds) = true) : neD (.list ds) (.list []) = some (.bool (!ds.isEmpty)) := by
  have e : SeqAt.shaped (.list []) = true := by decide
  cases ds <;> simp [neD, h, e, PyData.eqv, PyData.eqvAll]
/-- signs of a text, filtered -/
theorem lc_sieve {rt : RT} {ρ : En} {i : Nat} {z : Str} {p : Nat → Bool} (h : ∀ c, rt (ρ.set i (.val (.str ⟨#[c]⟩))) = some (.ok (!p c))) (hi : i < ρ.length) :
    lcL (rgName i) rt (rVar i) ρ (z.cps.toList.map fun c => .str ⟨#[c]⟩) = some ((z.cps.toList.filter fun c => !p c).map fun c => .str ⟨#[c]⟩) := by
  have v : ∀ d, rVar i (ρ.set i (.val d)) = some (.ok d) := fun d => by simp [rVar, hi]
  have q : ∀ l : List Nat, lcL (rgName i) rt (rVar i) ρ (l.map fun c => .str ⟨#[c]⟩) = some ((l.filter fun c => !p c).map fun c => .str ⟨#[c]⟩) := by
    intro l
    induction l with
    | nil => rfl
    | cons c l ih =>
      have hc := h c
      cases cc : p c with
      | true => rw [cc] at hc; simp [lcL, hc, ih, cc]
      | false => rw [cc] at hc; simp [lcL, hc, ih, cc, v]
  exact q _
theorem sieve_empty (l : List Nat) (p : Nat → Bool) : ((l.filter fun c => !p c).map fun c => (.str ⟨#[c]⟩ : D)).isEmpty = l.all p := by
  induction l with
  | nil => rfl
  | cons c l ih => cases cc : p c <;> simp_all
theorem shaped_signs {l : List Nat} (h : ∀ c ∈ l, c < 128) : SeqAt.shaped (.list (l.map fun c => .str ⟨#[c]⟩)) = true := by
  have g : good l.length 1 (.list (l.map fun c => .str ⟨#[c]⟩)) = true ∨ l.length = 0 := by
    by_cases z : l.length = 0
    · exact .inr z
    · refine .inl (good_lst.mpr ⟨by simp, fun x hx => ?_⟩)
      obtain ⟨c, hc, rfl⟩ := List.mem_map.mp hx
      refine good_str.mpr ⟨?_, fun k hk => ?_⟩
      · show 1 ≤ l.length
        omega
      · simp at hk
        subst hk
        exact h _ hc
  rcases g with g | g
  · exact good_shaped g (by decide)
  · have e : l = [] := List.eq_nil_of_length_eq_zero g
    subst e
    decide
theorem law_is_name_sem {n : Nat} (d : D) (h : good 1000 n d = true) : m__law_is_name [d] = some (.ok (.bool (nameD d))) := by
  cases d with
  | str z =>
    have hg := good_str.mp h
    have hz3 : z.cps.size ≤ 1000000 := Nat.le_trans hg.1 (by decide)
    have e := lc_sieve (rt := rNt (rTst (rChain leD leD (rC (.str (Str.ofString "a"))) (rVar 1) (rC (.str (Str.ofString "z")))))) (ρ := [SV.val (.str z), SV.no]) (i := 1) (z := z) (p := fun c => decide (97 ≤ c) && decide (c ≤ 122)) (fun c => by
      simp [le_lo cps_a, le_hi cps_z]
      by_cases c1 : 97 ≤ c <;> simp [c1]) (by simp)
    have sh := shaped_signs (l := z.cps.toList.filter fun c => !(decide (97 ≤ c) && decide (c ≤ 122))) fun c hc => hg.2 c (List.mem_filter.mp hc).1
    have e2 := eq_nil_list _ sh
    rw [sieve_empty] at e2
    simp only [m__law_is_name, b__law_is_name, fnSem_ap]
    simp [lenD_str hg.1, rLc_ap, hz3, e, nameD, nameS] at e2 ⊢
    by_cases c1 : 1 ≤ z.length
    · by_cases c2 : z.length ≤ 4
      · simp [c1, c2, show (1 : Int) ≤ (z.length : Int) by omega, show (z.length : Int) ≤ 4 by omega, e2]
        try (intro q; omega)
      · simp [c1, c2, show (1 : Int) ≤ (z.length : Int) by omega, show ¬ (z.length : Int) ≤ 4 by omega]
    · simp [c1, show ¬ (1 : Int) ≤ (z.length : Int) by omega]
  | _ => simp [m__law_is_name, b__law_is_name, fnSem_ap, isiB, tyName, nameD]
theorem law_is_text_sem {n : Nat} (d : D) (h : good 1000 n d = true) : m__law_is_text [d] = some (.ok (.bool (lineD d))) := by
  cases d with
  | str z =>
    have hg := good_str.mp h
    have hz3 : z.cps.size ≤ 1000000 := Nat.le_trans hg.1 (by decide)
    have e := lc_sieve (rt := rNt (rTst (rChain leD leD (rC (.str (Str.ofString " "))) (rVar 1) (rC (.str (Str.ofString "~")))))) (ρ := [SV.val (.str z), SV.no]) (i := 1) (z := z) (p := fun c => decide (32 ≤ c) && decide (c ≤ 126)) (fun c => by
      simp [le_lo cps_blank, le_hi cps_tilde]
      by_cases c1 : 32 ≤ c <;> simp [c1]) (by simp)
    have sh := shaped_signs (l := z.cps.toList.filter fun c => !(decide (32 ≤ c) && decide (c ≤ 126))) fun c hc => hg.2 c (List.mem_filter.mp hc).1
    have e2 := eq_nil_list _ sh
    rw [sieve_empty] at e2
    simp only [m__law_is_text, b__law_is_text, fnSem_ap]
    simp [lenD_str hg.1, rLc_ap, hz3, e, lineD, lineS] at e2 ⊢
    by_cases c2 : z.length ≤ 12
    · simp [c2, show (z.length : Int) ≤ 12 by omega, e2]
    · simp [c2, show ¬ (z.length : Int) ≤ 12 by omega]
  | _ => simp [m__law_is_text, b__law_is_text, fnSem_ap, isiB, tyName, lineD]
theorem ne_int2 (n : Nat) : neD (.int (n : Int)) (.int 2) = some (.bool (!decide (n = 2))) := by
  rw [neD_int]
  congr 2
  by_cases c : n = 2
  · simp [c]
  · simp [c, show ¬ (n : Int) = 2 by omega]
theorem shaped_words : SeqAt.shaped (.tuple [.str (Str.ofString "open"), .str (Str.ofString "next"), .str (Str.ofString "close")]) = true := by decide +kernel
theorem in_words (z : Str) (h : SeqAt.shaped (.str z) = true) : inD false (.str z) (.tuple [.str (Str.ofString "open"), .str (Str.ofString "next"), .str (Str.ofString "close")]) = some (.bool (bordS z)) := in_borders z h
theorem eq_line (z : Str) (h : SeqAt.shaped (.str z) = true) : eqD (.str z) (.str (Str.ofString "line")) = some (.bool (z == sLine)) := eq_str h shaped_line
/-- one row of the law's loop -/
theorem law_row_turn {n : Nat} (t x : D) (s1 s2 : SV) (h : good 1000 n x = true) (hn : n ≤ 60) (rest : List D) (q : RS)
    (rb : RS) (hrb : rb = lp__law_are_rows_0) :
    (rowD x = true → ∃ s1' s2', rb [.val t, .val x, s2] = some (.nx [.val t, s1', s2'])) ∧ (rowD x = false → rb [.val t, .val x, s2] = some (.rt (.bool false))) := by
  subst hrb
  unfold lp__law_are_rows_0
  have nt : ∀ d : D, (∀ z, d ≠ .tuple z) → rowD d = false := fun d hd => by
    unfold rowD
    split
    · exact absurd rfl (hd _)
    · rfl
  cases x with
  | tuple xs =>
    cases n with
    | zero => simp [good] at h
    | succ n =>
      have q := good_tup.mp h
      match xs, q with
      | [], _ => simp [rowD]
      | [a], _ => simp [rowD]
      | a :: b :: c :: r, _ =>
        have e : ¬ ((r.length : Int) + 1 + 1 + 1 = 2) := by omega
        simp [rowD, e]
      | [a, b], q =>
        have ga := q.2 a (by simp)
        have gb := q.2 b (by simp)
        have sa := good_shaped ga (by omega)
        by_cases c : ∃ z, a = .str z
        · obtain ⟨z, rfl⟩ := c
          have e1 := law_is_text_sem b gb
          have e2 := law_is_name_sem b gb
          by_cases cl : z = sLine
          · subst cl
            have nb : bordS sLine = false := by decide +kernel
            cases ct : lineD b <;> simp [rowD, ix0, ix1, eq_line _ sa, in_words _ sa, e1, e2, nb, ct]
          · have cl' : (z == sLine) = false := by simpa using cl
            cases cb : bordS z <;> cases cn : nameD b <;> simp [rowD, ix0, ix1, eq_line _ sa, in_words _ sa, e1, e2, cl', cb, cn]
        · have e := isi_str_not fun z ez => c ⟨z, ez⟩
          have er : rowD (.tuple [a, b]) = false := by
            unfold rowD
            split
            · rename_i w n ew
              simp at ew
              exact absurd ⟨w, ew.1⟩ c
            · rfl
          simp [er, ix0, e]
  | _ => simp [isiB, tyName, rowD]
theorem law_are_rows_sem {n : Nat} (d : D) (h : good 1000 n d = true) (hn : n ≤ 60) : m__law_are_rows [d] = some (.ok (.bool (rowsD d))) := by
  cases d with
  | tuple xs =>
    cases n with
    | zero => simp [good] at h
    | succ n =>
      have q := good_tup.mp h
      have lp : ∀ (ys : List D) (s1 s2 : SV), (∀ y ∈ ys, good 1000 n y = true) → retD (seqD (forL (rgName 1) lp__law_are_rows_0 ys [.val (.tuple xs), s1, s2]) (sRet (rC (.bool true)))) = some (.ok (.bool (ys.all rowD))) := by
        intro ys
        induction ys with
        | nil => intro s1 s2 _; simp
        | cons y ys ih =>
          intro s1 s2 hy
          have tr := law_row_turn (.tuple xs) y s1 s2 (hy y List.mem_cons_self) (by omega) [] sNil _ rfl
          cases cy : rowD y with
          | true =>
            obtain ⟨a, b, e⟩ := tr.1 cy
            simp only [forL_cons, rgName_ap, List.set_cons_succ, List.set_cons_zero, e]
            rw [ih a b fun z hz => hy z (List.mem_cons_of_mem _ hz)]
            simp [cy]
          | false =>
            have e := tr.2 cy
            simp only [forL_cons, rgName_ap, List.set_cons_succ, List.set_cons_zero, e]
            simp [cy]
      simp only [m__law_are_rows, b__law_are_rows, fnSem_ap]
      have l1 := lp xs .no .no q.2
      by_cases c : xs.length ≤ 14
      · simp [show ¬ (14 : Int) < (xs.length : Int) by omega, rowsD, c] at l1 ⊢
        exact l1
      · simp [show (14 : Int) < (xs.length : Int) by omega, rowsD, c]
  | _ => simp [m__law_are_rows, b__law_are_rows, fnSem_ap, isiB, tyName, rowsD]
def letB (T : D → Bool) : D → Bool
  | .tuple [a, .tuple ps] => nameD a && (!ps.isEmpty && ps.all T)
  | _ => false
def treeB : Nat → D → Bool
  | 0, _ => false
  | n + 1, .tuple xs => xs.all fun x => lineD x || letB (treeB n) x
  | _ + 1, _ => false
theorem let_not {T : D → Bool} {d : D} (h : ∀ a ps, d ≠ .tuple [a, .tuple ps]) : letB T d = false := by
  unfold letB
  split
  · exact absurd rfl (h _ _)
  · rfl
/-- a letter, by what is told of its parts -/
theorem letter_of {n : Nat} {T : D → Bool} {g : List D → R D} (x : D) (h : good 1000 n x = true) (hn : n ≤ 60) (hT : ∀ p, (∃ m, m + 2 ≤ n ∧ good 1000 m p = true) → g [p] = some (.ok (.bool (T p)))) (g2 : List D → R D) :
    fnSem 2 (b_is_letter g g2) [x] = some (.ok (.bool (letB T x))) := by
  cases x with
  | tuple xs =>
    cases n with
    | zero => simp [good] at h
    | succ n =>
      have q := good_tup.mp h
      match xs, q with
      | [], _ => simp [b_is_letter, fnSem_ap, letB]
      | [a], _ => simp [b_is_letter, fnSem_ap, letB]
      | a :: b :: c :: r, _ =>
        have e : ¬ ((r.length : Int) + 1 + 1 + 1 = 2) := by omega
        simp [b_is_letter, fnSem_ap, letB, e]
      | [a, b], q =>
        have ga := q.2 a (by simp)
        have gb := q.2 b (by simp)
        have e1 := is_name_sem a (good_short ga (by decide))
        cases cn : nameD a with
        | false =>
          rw [cn] at e1
          have el : letB T (.tuple [a, b]) = false := by
            unfold letB
            split
            · rename_i a' ps ew
              simp at ew
              obtain ⟨rfl, _⟩ := ew
              simp [cn]
            · rfl
          simp [b_is_letter, fnSem_ap, ix0, e1, el]
        | true =>
          rw [cn] at e1
          by_cases c : ∃ ps, b = .tuple ps
          · obtain ⟨ps, rfl⟩ := c
            cases n with
            | zero => simp [good] at gb
            | succ n =>
              have qb := good_tup.mp gb
              have hl : ps.length ≤ 1000000 := by omega
              have e2 : lcL (rgName 1) rYes (rCall 1 g (rCons (rVar 1) rNil)) [SV.val (.tuple [a, .tuple ps]), SV.no] ps = some (ps.map fun d => .bool (T d)) := lc_map fun d hd => ⟨_, rfl, by
                simp [hT d ⟨n, by omega, qb.2 d hd⟩]⟩
              simp [b_is_letter, fnSem_ap, ix0, ix1, e1, rLc_ap, hl, e2, all_bools, letB, cn]
              cases ps with
              | nil => simp
              | cons p ps => simp [show (0 : Int) < (ps.length : Int) + 1 by omega]
          · have e3 := isi_tuple_not fun z ez => c ⟨z, ez⟩
            have el : letB T (.tuple [a, b]) = false := by
              unfold letB
              split
              · rename_i a' ps ew
                simp at ew
                exact absurd ⟨ps, ew.2⟩ c
              · rfl
            simp [b_is_letter, fnSem_ap, ix0, ix1, e1, e3, el]
  | _ => simp [b_is_letter, fnSem_ap, isiB, tyName, letB]
theorem is_tree_sem : ∀ (n : Nat) (d : D) (f g : Nat), good 1000 n d = true → n ≤ 60 → n < f → n < g → m_is_tree f [d] = some (.ok (.bool (treeB g d))) := by
  intro n
  induction n using Nat.strongRecOn with
  | _ n ih =>
    intro d f g h hn hf hg
    obtain ⟨f, rfl⟩ : ∃ k, f = k + 1 := ⟨f - 1, by omega⟩
    obtain ⟨g, rfl⟩ : ∃ k, g = k + 1 := ⟨g - 1, by omega⟩
    rw [m_is_tree_succ]
    cases d with
    | tuple xs =>
      cases n with
      | zero => simp [good] at h
      | succ n =>
        have q := good_tup.mp h
        have hl : xs.length ≤ 1000000 := by omega
        obtain ⟨f', rfl⟩ : ∃ k, f = k + 1 := ⟨f - 1, by omega⟩
        have e : lcL (rgName 1) rYes (rOrV (rCall 1 m_is_line (rCons (rVar 1) rNil)) (rCall 1 (m_is_letter (f' + 1)) (rCons (rVar 1) rNil))) [SV.val (.tuple xs), SV.no] xs = some (xs.map fun x => .bool (lineD x || letB (treeB g) x)) := lc_map fun x hx => ⟨_, rfl, by
          have gx := q.2 x hx
          have e1 := is_line_sem x (good_short gx (by decide))
          have e2 := letter_of (T := treeB g) (g := m_is_tree f') x gx (by omega) (fun p ⟨m, hm, hp⟩ => ih m (by omega) p f' g hp (by omega) (by omega) (by omega)) (m_is_letter f')
          rw [m_is_letter_succ]
          cases cl : lineD x <;> simp [e1, e2, cl]⟩
        simp [b_is_tree, fnSem_ap, rLc_ap, hl, e, all_bools, treeB]
    | _ => simp [b_is_tree, fnSem_ap, isiB, tyName, treeB]
theorem eq_nil_tuple (ds : List D) (h : SeqAt.shaped (.tuple ds) = true) : eqD (.tuple ds) (.tuple []) = some (.bool ds.isEmpty) := by
  have e : SeqAt.shaped (.tuple []) = true := by decide
  cases ds <;> simp [eqD, h, e, PyData.eqv, PyData.eqvAll]
theorem law_leaf_turn {n : Nat} {T : D → Bool} {g : List D → R D} (t x : D) (h : good 1000 n x = true) (hn : n ≤ 60) (hT : ∀ p, (∃ m, m + 2 ≤ n ∧ good 1000 m p = true) → g [p] = some (.ok (.bool (T p)))) :
    lp__law_is_tree_0 g [.val t, .val x, .no] = if (lineD x || letB T x) = true then some (.nx [.val t, .val x, .no]) else some (.rt (.bool false)) := by
  unfold lp__law_is_tree_0
  have e0 := law_is_text_sem x h
  cases cl : lineD x with
  | true => rw [cl] at e0; simp [e0]
  | false =>
    rw [cl] at e0
    cases x with
    | tuple xs =>
      cases n with
      | zero => simp [good] at h
      | succ n =>
        have q := good_tup.mp h
        match xs, q, e0 with
        | [], _, e0 => simp [letB, e0]
        | [a], _, e0 => simp [letB, e0]
        | a :: b :: c :: r, _, e0 =>
          have e : ¬ ((r.length : Int) + 1 + 1 + 1 = 2) := by omega
          simp [letB, e, e0]
        | [a, b], q, e0 =>
          have ga := q.2 a (by simp)
          have gb := q.2 b (by simp)
          have e1 := law_is_name_sem a ga
          cases cn : nameD a with
          | false =>
            rw [cn] at e1
            have el : letB T (.tuple [a, b]) = false := by
              unfold letB
              split
              · rename_i a' ps ew
                simp at ew
                obtain ⟨rfl, _⟩ := ew
                simp [cn]
              · rfl
            simp [ix0, e1, el, e0]
          | true =>
            rw [cn] at e1
            by_cases c : ∃ ps, b = .tuple ps
            · obtain ⟨ps, rfl⟩ := c
              cases n with
              | zero => simp [good] at gb
              | succ n =>
                have qb := good_tup.mp gb
                have hl : ps.length ≤ 1000000 := by omega
                have e2 : lcL (rgName 2) (rNt (rTst (rCall 1 g (rCons (rVar 2) rNil)))) (rVar 2) [.val t, .val (.tuple [a, .tuple ps]), .no] ps = some ((ps.filter fun p => !T p).map fun p => p) := lc_filter fun p hp => ⟨_, rfl, by
                  simp [hT p ⟨n, by omega, qb.2 p hp⟩], fun _ => by simp⟩
                have sb := good_shaped gb (by omega)
                have e3 := eq_nil_tuple ps sb
                have gl : good 1000 (n + 1) (.list ((ps.filter fun p => !T p).map fun p => p)) = true := good_lst.mpr ⟨by
                  rw [List.length_map]
                  exact Nat.le_trans (List.length_filter_le _ _) qb.1, fun x hx => by
                  rw [List.map_id'] at hx
                  exact qb.2 x (List.mem_filter.mp hx).1⟩
                have e4 := ne_nil_list _ (good_shaped gl (by omega))
                have e5 : ((ps.filter fun p => !T p).map fun p => p).isEmpty = ps.all T := by
                  rw [List.map_id']
                  clear gl e4 e2 sb e3 qb gb hl q h e0 cl
                  induction ps with
                  | nil => rfl
                  | cons p ps ih => cases cp : T p <;> simp_all
                rw [e5] at e4
                cases ps with
                | nil => simp [ix0, ix1, e1, e0, e3, letB]
                | cons p ps =>
                  simp [ix0, ix1, e1, e0, e3, rLc_ap, letB, cn]
                  simp at e2 e4 hl
                  simp [hl, e2, e4]
                  by_cases c5 : T p = true ∧ ∀ x, x ∈ ps → T x = true
                  · rw [if_pos c5, if_neg]
                    rintro (z | ⟨x, hx, z⟩)
                    · rw [c5.1] at z; cases z
                    · rw [c5.2 x hx] at z; cases z
                  · rw [if_neg c5, if_pos]
                    by_cases c6 : T p = true
                    · refine .inr (Classical.byContradiction fun no => c5 ⟨c6, fun x hx => ?_⟩)
                      cases z : T x with
                      | true => rfl
                      | false => exact absurd ⟨x, hx, z⟩ no
                    · exact .inl (by simpa using c6)
            · have e3 := isi_tuple_not fun z ez => c ⟨z, ez⟩
              have el : letB T (.tuple [a, b]) = false := by
                unfold letB
                split
                · rename_i a' ps ew
                  simp at ew
                  exact absurd ⟨ps, ew.2⟩ c
                · rfl
              simp [ix0, ix1, e1, e3, el, e0]
    | _ => simp [isiB, tyName, letB, e0]
theorem law_is_tree_sem : ∀ (n : Nat) (d : D) (f g : Nat), good 1000 n d = true → n ≤ 60 → n < f → n < g → m__law_is_tree f [d] = some (.ok (.bool (treeB g d))) := by
  intro n
  induction n using Nat.strongRecOn with
  | _ n ih =>
    intro d f g h hn hf hg
    obtain ⟨f, rfl⟩ : ∃ k, f = k + 1 := ⟨f - 1, by omega⟩
    obtain ⟨g, rfl⟩ : ∃ k, g = k + 1 := ⟨g - 1, by omega⟩
    rw [m__law_is_tree_succ]
    cases d with
    | tuple xs =>
      cases n with
      | zero => simp [good] at h
      | succ n =>
        have q := good_tup.mp h
        have lp : ∀ (ys : List D) (s1 : SV), (∀ y ∈ ys, good 1000 n y = true) → retD (seqD (forL (rgName 1) (lp__law_is_tree_0 (m__law_is_tree f)) ys [.val (.tuple xs), s1, .no]) (sRet (rC (.bool true)))) = some (.ok (.bool (ys.all fun x => lineD x || letB (treeB g) x))) := by
          intro ys
          induction ys with
          | nil => intro s1 _; simp
          | cons y ys ih2 =>
            intro s1 hy
            have tr := law_leaf_turn (T := treeB g) (g := m__law_is_tree f) (.tuple xs) y (hy y List.mem_cons_self) (by omega) fun p ⟨m, hm, hp⟩ => ih m (by omega) p f g hp (by omega) (by omega) (by omega)
            simp only [forL_cons, rgName_ap, List.set_cons_succ, List.set_cons_zero, tr]
            cases cy : (lineD y || letB (treeB g) y) with
            | true =>
              simp only [if_true]
              rw [ih2 _ fun z hz => hy z (List.mem_cons_of_mem _ hz)]
              simp [cy]
            | false => simp [cy]
        have l1 := lp xs .no q.2
        simp only [b__law_is_tree, fnSem_ap]
        simp [treeB] at l1 ⊢
        exact l1
    | _ => simp [b__law_is_tree, fnSem_ap, isiB, tyName, treeB]
def cellZ (ns : List Int) (k : Nat) : Int := ns.getD k 0
theorem script_len (ns : List Int) : lenD [scriptD ns] = some (.int (ns.length : Nat)) := by
  simp [lenD, scriptD]
theorem atI_in {α : Type} {xs : List α} {k : Nat} (h : k < xs.length) : atI xs (k : Int) = some xs[k] := atI_nat (List.getElem?_eq_getElem h)
theorem cell_sem (ns : List Int) (k : Nat) : m__law_cell_at [scriptD ns, .int (k : Nat)] = some (.ok (.int (cellZ ns k))) := by
  by_cases c : k < ns.length
  · have e : ixD (scriptD ns) (.int (k : Nat)) = some (.int (cellZ ns k)) := by
      show atI (((ns.map PyData.int).map fun d => (d, d)).map (·.1)) ((k : Nat) : Int) = _
      rw [ro_items]
      have h : k < (ns.map PyData.int).length := by rw [List.length_map]; exact c
      rw [atI_in h]
      simp [cellZ, c]
    simp [m__law_cell_at, b__law_cell_at, fnSem_ap, script_len, e, show (k : Int) < (ns.length : Int) by omega]
  · simp [m__law_cell_at, b__law_cell_at, fnSem_ap, script_len, show ¬ (k : Int) < (ns.length : Int) by omega, cellZ, List.getElem?_eq_none (show ns.length ≤ k by omega)]
theorem modD_pos {i j : Int} (h : 0 < j) : modD (.int i) (.int j) = some (.int (i % j)) := by simp [modD, h]
theorem fdivD_pos {i j : Int} (h : 0 < j) (h2 : j < 1073741824) : fdivD (.int i) (.int j) = some (.int (i / j)) := by simp [fdivD, h, h2]
theorem mulD_l {i j : Int} (h : -18446744073709551616 < i ∧ i < 18446744073709551616) : mulD (.int i) (.int j) = some (.int (i * j)) := by
  show (if (-(2 ^ 64) < i ∧ i < 2 ^ 64) ∨ (-(2 ^ 64) < j ∧ j < 2 ^ 64) then some (PyData.int (i * j)) else none) = _
  rw [if_pos (.inl (by omega))]
theorem mulD_r {i j : Int} (h : -18446744073709551616 < j ∧ j < 18446744073709551616) : mulD (.int i) (.int j) = some (.int (i * j)) := by
  show (if (-(2 ^ 64) < i ∧ i < 2 ^ 64) ∨ (-(2 ^ 64) < j ∧ j < 2 ^ 64) then some (PyData.int (i * j)) else none) = _
  rw [if_pos (.inr (by omega))]
def mixB (c : Int) (k : Nat) : Int := (c + 7919 * k + 1) * 48271 % 2147483647
def mixZ (ns : List Int) (k : Nat) : Int := (mixB (cellZ ns k) k * mixB (cellZ ns k) k + 7 * mixB (cellZ ns k) k + k) % 2147483629
theorem mod_lt' (a : Int) {b : Int} (h : 0 < b) : 0 ≤ a % b ∧ a % b < b := ⟨Int.emod_nonneg _ (by omega), Int.emod_lt_of_pos _ h⟩
theorem mixed_sem (ns : List Int) (k : Nat) : m__law_mixed [scriptD ns, .int (k : Nat)] = some (.ok (.int (mixZ ns k))) := by
  have hb := mod_lt' ((cellZ ns k + 7919 * k + 1) * 48271) (b := 2147483647) (by decide)
  have e1 : mulD (.int 7919) (.int (k : Int)) = some (.int (7919 * k)) := mulD_l (by decide)
  have e2 : mulD (.int (cellZ ns k + 7919 * k + 1)) (.int 48271) = some (.int ((cellZ ns k + 7919 * k + 1) * 48271)) := mulD_r (by decide)
  have e3 : mulD (.int (mixB (cellZ ns k) k)) (.int (mixB (cellZ ns k) k)) = some (.int (mixB (cellZ ns k) k * mixB (cellZ ns k) k)) := mulD_l (by unfold mixB; omega)
  have e4 : mulD (.int 7) (.int (mixB (cellZ ns k) k)) = some (.int (7 * mixB (cellZ ns k) k)) := mulD_l (by decide)
  have e5 : modD (.int ((cellZ ns k + 7919 * k + 1) * 48271)) (.int 2147483647) = some (.int (mixB (cellZ ns k) k)) := modD_pos (by decide)
  simp [m__law_mixed, b__law_mixed, fnSem_ap, cell_sem, e1, e2, e5, e3, e4, modD_pos, mixZ]
theorem mixZ_pos (ns : List Int) (k : Nat) : 0 ≤ mixZ ns k ∧ mixZ ns k < 2147483629 := mod_lt' _ (by decide)
def drwB (n k : Int) : Int := (n + 104729 * k + 17) * 69621 % 2147483647
def drwZ (n k : Int) : Int := (drwB n k * drwB n k + 3 * drwB n k + k) % 2147483629
theorem drawn_sem (n k : Int) : m__law_drawn [.int n, .int k] = some (.ok (.int (drwZ n k))) := by
  have hb := mod_lt' ((n + 104729 * k + 17) * 69621) (b := 2147483647) (by decide)
  have e1 : mulD (.int 104729) (.int k) = some (.int (104729 * k)) := mulD_l (by decide)
  have e2 : mulD (.int (n + 104729 * k + 17)) (.int 69621) = some (.int ((n + 104729 * k + 17) * 69621)) := mulD_r (by decide)
  have e3 : mulD (.int (drwB n k)) (.int (drwB n k)) = some (.int (drwB n k * drwB n k)) := mulD_l (by unfold drwB; omega)
  have e4 : mulD (.int 3) (.int (drwB n k)) = some (.int (3 * drwB n k)) := mulD_l (by decide)
  have e5 : modD (.int ((n + 104729 * k + 17) * 69621)) (.int 2147483647) = some (.int (drwB n k)) := modD_pos (by decide)
  simp [m__law_drawn, b__law_drawn, fnSem_ap, e1, e2, e5, e3, e4, modD_pos, drwZ]
theorem drwZ_pos (n k : Int) : 0 ≤ drwZ n k ∧ drwZ n k < 2147483629 := mod_lt' _ (by decide)
/-- an item of a written tuple at a drawn place -/
theorem ix_drawn {xs : List D} {i : Int} (h0 : 0 ≤ i) (h1 : i < xs.length) : ∃ d, ixD (.tuple xs) (.int i) = some d ∧ d ∈ xs := by
  obtain ⟨k, rfl⟩ := Int.eq_ofNat_of_zero_le h0
  have hk : k < xs.length := by omega
  exact ⟨xs[k], by unfold ixD; exact atI_in hk, List.getElem_mem hk⟩
def lineTexts : List Str := [Str.ofString "", Str.ofString "a", Str.ofString "x y", Str.ofString "[a", Str.ofString "hello", Str.ofString "~ ~"]
def nameTexts : List Str := [Str.ofString "a", Str.ofString "b", Str.ofString "cd"]
def RowIn (r : D) : Prop := (∃ t ∈ lineTexts, r = .tuple [.str sLine, .str t]) ∨ ∃ w ∈ [sOpen, sNext, sClose], ∃ t ∈ nameTexts, r = .tuple [.str w, .str t]
theorem lineTexts_d : lineTexts.map PyData.str = [.str (Str.ofString ""), .str (Str.ofString "a"), .str (Str.ofString "x y"), .str (Str.ofString "[a"), .str (Str.ofString "hello"), .str (Str.ofString "~ ~")] := rfl
theorem nameTexts_d : nameTexts.map PyData.str = [.str (Str.ofString "a"), .str (Str.ofString "b"), .str (Str.ofString "cd")] := rfl
theorem row_sem (n k : Int) (hk : 1 ≤ k ∧ k ≤ 3) : ∃ r, m__law_row [.int n, .int k] = some (.ok r) ∧ RowIn r := by
  have h1 := mod_lt' (n / 16) (b := 7) (by decide)
  have h2 := mod_lt' (n / 256) (b := 6) (by decide)
  have h3 := mod_lt' (n / 2048) (b := k) (by omega)
  obtain ⟨w, e1, m1⟩ := ix_drawn (xs := [.str (Str.ofString "line"), .str (Str.ofString "open"), .str (Str.ofString "close"), .str (Str.ofString "next"), .str (Str.ofString "open"), .str (Str.ofString "close"), .str (Str.ofString "line")]) h1.1 h1.2
  obtain ⟨t, e2, m2⟩ := ix_drawn (xs := [.str (Str.ofString ""), .str (Str.ofString "a"), .str (Str.ofString "x y"), .str (Str.ofString "[a"), .str (Str.ofString "hello"), .str (Str.ofString "~ ~")]) h2.1 h2.2
  obtain ⟨u, e3, m3⟩ := ix_drawn (xs := [.str (Str.ofString "a"), .str (Str.ofString "b"), .str (Str.ofString "cd")]) h3.1 (by simp; omega)
  obtain ⟨t', mt, rfl⟩ : ∃ s ∈ lineTexts, t = .str s := by
    rw [← lineTexts_d] at m2
    obtain ⟨s, hs, rfl⟩ := List.mem_map.mp m2
    exact ⟨s, hs, rfl⟩
  obtain ⟨u', mu, rfl⟩ : ∃ s ∈ nameTexts, u = .str s := by
    rw [← nameTexts_d] at m3
    obtain ⟨s, hs, rfl⟩ := List.mem_map.mp m3
    exact ⟨s, hs, rfl⟩
  have so : SeqAt.shaped (.str sOpen) = true := by decide +kernel
  have sn : SeqAt.shaped (.str sNext) = true := by decide +kernel
  have sc : SeqAt.shaped (.str sClose) = true := by decide +kernel
  have cs : w = .str sLine ∨ w = .str sOpen ∨ w = .str sClose ∨ w = .str sNext := by
    simp only [List.mem_cons, List.not_mem_nil, or_false] at m1
    rcases m1 with h | h | h | h | h | h | h
    · exact .inl h
    · exact .inr (.inl h)
    · exact .inr (.inr (.inl h))
    · exact .inr (.inr (.inr h))
    · exact .inr (.inl h)
    · exact .inr (.inr (.inl h))
    · exact .inl h
  have n1 : (sOpen == sLine) = false := by decide +kernel
  have n2 : (sClose == sLine) = false := by decide +kernel
  have n3 : (sNext == sLine) = false := by decide +kernel
  have d1 : fdivD (.int n) (.int 16) = some (.int (n / 16)) := fdivD_pos (by decide) (by decide)
  have d2 : fdivD (.int n) (.int 256) = some (.int (n / 256)) := fdivD_pos (by decide) (by decide)
  have d3 : fdivD (.int n) (.int 2048) = some (.int (n / 2048)) := fdivD_pos (by decide) (by decide)
  have q1 : modD (.int (n / 16)) (.int 7) = some (.int (n / 16 % 7)) := modD_pos (by decide)
  have q2 : modD (.int (n / 256)) (.int 6) = some (.int (n / 256 % 6)) := modD_pos (by decide)
  have q3 : modD (.int (n / 2048)) (.int k) = some (.int (n / 2048 % k)) := modD_pos (by omega)
  rcases cs with rfl | rfl | rfl | rfl
  · refine ⟨.tuple [.str sLine, .str t'], ?_, .inl ⟨t', mt, rfl⟩⟩
    simp [m__law_row, b__law_row, fnSem_ap, d1, q1, e1, eq_line _ shaped_line, d2, q2, e2]
  · refine ⟨.tuple [.str sOpen, .str u'], ?_, .inr ⟨sOpen, by simp, u', mu, rfl⟩⟩
    simp [m__law_row, b__law_row, fnSem_ap, d1, q1, e1, eq_line _ so, n1, d3, q3, e3]
  · refine ⟨.tuple [.str sClose, .str u'], ?_, .inr ⟨sClose, by simp, u', mu, rfl⟩⟩
    simp [m__law_row, b__law_row, fnSem_ap, d1, q1, e1, eq_line _ sc, n2, d3, q3, e3]
  · refine ⟨.tuple [.str sNext, .str u'], ?_, .inr ⟨sNext, by simp, u', mu, rfl⟩⟩
    simp [m__law_row, b__law_row, fnSem_ap, d1, q1, e1, eq_line _ sn, n3, d3, q3, e3]
/-- a comprehension of which each item is some thing with a fact -/
theorem lc_some {rg : RG} {re : RE} {ρ : En} {P : D → Prop} : ∀ {ds : List D}, (∀ d ∈ ds, ∃ ρ1 y, rg d ρ = some ρ1 ∧ re ρ1 = some (.ok y) ∧ P y) → ∃ ys, lcL rg rYes re ρ ds = some ys ∧ ys.length = ds.length ∧ ∀ y ∈ ys, P y
  | [], _ => ⟨[], rfl, rfl, by simp⟩
  | d :: ds, h => by
    obtain ⟨ρ1, y, e1, e2, p⟩ := h d List.mem_cons_self
    obtain ⟨ys, e3, l, q⟩ := lc_some (ds := ds) fun d hd => h d (List.mem_cons_of_mem _ hd)
    refine ⟨y :: ys, by simp [lcL, e1, e2, e3], by simp [l], fun z hz => ?_⟩
    rcases List.mem_cons.mp hz with rfl | hz
    · exact p
    · exact q z hz
theorem rgLen_len (lo : Int) (n : Nat) : (rgLen lo n).length = n := by simp [rgLen]
theorem mem_rgLen {lo : Int} {n : Nat} {d : D} (h : d ∈ rgLen lo n) : ∃ i : Nat, i < n ∧ d = .int (lo + i) := by
  unfold rgLen at h
  obtain ⟨i, hi, rfl⟩ := List.mem_map.mp h
  exact ⟨i, List.mem_range.mp hi, rfl⟩
theorem range1_nat {i : Int} (h0 : 0 ≤ i) (h1 : i < 1000) : range1D [.int i] = some (rgLen 0 i.toNat) := by
  show (if -(2 ^ 62) ≤ i ∧ i < 2 ^ 62 then some (rgLen 0 i.toNat) else none) = _
  rw [if_pos (by omega)]
theorem rows_sem (n : Int) (most : Nat) (hm : most ≤ 100) : ∃ rs, m__law_rows [.int n, .int (most : Nat)] = some (.ok (.tuple rs)) ∧ rs.length ≤ most ∧ ∀ r ∈ rs, RowIn r := by
  have h1 := mod_lt' (n / 16) (b := 3) (by decide)
  have h2 := mod_lt' n (b := (most : Int) + 1) (by omega)
  have d1 : fdivD (.int n) (.int 16) = some (.int (n / 16)) := fdivD_pos (by decide) (by decide)
  have q1 : modD (.int (n / 16)) (.int 3) = some (.int (n / 16 % 3)) := modD_pos (by decide)
  have q2 : modD (.int n) (.int ((most : Int) + 1)) = some (.int (n % ((most : Int) + 1))) := modD_pos (by omega)
  obtain ⟨rs, e, l, p⟩ := lc_some (rg := rgName 3) (re := rCall 2 m__law_row (rCons (rCall 2 m__law_drawn (rCons (rVar 0) (rCons (rOp addD (rC (.int 10)) (rVar 3)) rNil))) (rCons (rVar 2) rNil))) (ρ := [.val (.int n), .val (.int (most : Nat)), .val (.int (1 + n / 16 % 3)), .no]) (P := RowIn) (ds := rgLen 0 (n % ((most : Int) + 1)).toNat) fun d hd => by
    obtain ⟨i, hi, rfl⟩ := mem_rgLen hd
    obtain ⟨r, e1, e2⟩ := row_sem (drwZ n (10 + (0 + (i : Int)))) (1 + n / 16 % 3) (by omega)
    refine ⟨_, r, rfl, ?_, e2⟩
    rw [← e1]
    simp [drawn_sem]
  rw [rgLen_len] at l
  refine ⟨rs, ?_, by omega, p⟩
  have r1 := range1_nat h2.1 (by omega)
  have hl : (n % ((most : Int) + 1)).toNat ≤ 1000000 := by omega
  simp [m__law_rows, b__law_rows, fnSem_ap, d1, q1, q2, r1, rLc_ap, rgLen_len, hl, e]
mutual
inductive Tr where
  | nil
  | cons (l : Lf) (t : Tr)
inductive Lf where
  | txt (s : Str)
  | lt (nm : Str) (ps : Ps)
inductive Ps where
  | one (t : Tr)
  | cons (t : Tr) (ps : Ps)
end
mutual
def Tr.ds : Tr → List D
  | .nil => []
  | .cons l t => l.d :: t.ds
def Lf.d : Lf → D
  | .txt s => .str s
  | .lt nm ps => .tuple [.str nm, .tuple ps.ds]
def Ps.ds : Ps → List D
  | .one t => [.tuple t.ds]
  | .cons t ps => .tuple t.ds :: ps.ds
end
def Tr.len : Tr → Nat
  | .nil => 0
  | .cons _ t => t.len + 1
def Ps.len : Ps → Nat
  | .one _ => 1
  | .cons _ ps => ps.len + 1
def treeTexts : List Str := [Str.ofString "", Str.ofString "a", Str.ofString "x y", Str.ofString "[a", Str.ofString "hello", Str.ofString "]b"]
mutual
def Tr.ok (d : Nat) : Tr → Prop
  | .nil => True
  | .cons l t => l.ok d ∧ t.ok d
def Lf.ok (d : Nat) : Lf → Prop
  | .txt s => s ∈ treeTexts
  | .lt nm ps => nm ∈ nameTexts ∧ ps.len ≤ 3 ∧ 0 < d ∧ ps.ok (d - 1)
def Ps.ok (d : Nat) : Ps → Prop
  | .one t => t.len ≤ 3 ∧ t.ok d
  | .cons t ps => (t.len ≤ 3 ∧ t.ok d) ∧ ps.ok d
end
def Tr.of : List Lf → Tr
  | [] => .nil
  | l :: ls => .cons l (Tr.of ls)
theorem Tr.of_ds : ∀ ls : List Lf, (Tr.of ls).ds = ls.map Lf.d
  | [] => by simp [Tr.of, Tr.ds]
  | l :: ls => by simp [Tr.of, Tr.ds, Tr.of_ds ls]
theorem Tr.of_len : ∀ ls : List Lf, (Tr.of ls).len = ls.length
  | [] => rfl
  | l :: ls => by simp [Tr.of, Tr.len, Tr.of_len ls]
theorem Tr.of_ok {d : Nat} : ∀ {ls : List Lf}, (∀ l ∈ ls, l.ok d) → (Tr.of ls).ok d
  | [], _ => by simp [Tr.of, Tr.ok]
  | l :: ls, h => by
    simp only [Tr.of, Tr.ok]
    exact ⟨h l List.mem_cons_self, Tr.of_ok fun x hx => h x (List.mem_cons_of_mem _ hx)⟩
/-- parts out of a list of trees -/
theorem parts_of {d : Nat} : ∀ (ys : List D), ys ≠ [] → (∀ y ∈ ys, ∃ t : Tr, y = .tuple t.ds ∧ t.len ≤ 3 ∧ t.ok d) → ∃ ps : Ps, ps.ds = ys ∧ ps.len = ys.length ∧ ps.ok d
  | [], h, _ => absurd rfl h
  | [y], _, h => by
    obtain ⟨t, rfl, l, o⟩ := h y (by simp)
    exact ⟨.one t, by simp [Ps.ds], rfl, by simp [Ps.ok, l, o]⟩
  | y :: z :: r, _, h => by
    obtain ⟨t, rfl, l, o⟩ := h y (by simp)
    obtain ⟨ps, e1, e2, e3⟩ := parts_of (z :: r) (by simp) fun x hx => h x (List.mem_cons_of_mem _ hx)
    exact ⟨.cons t ps, by simp [Ps.ds, e1], by simp [Ps.len, e2], by simp [Ps.ok, l, o, e3]⟩
theorem treeTexts_d : treeTexts.map PyData.str = [.str (Str.ofString ""), .str (Str.ofString "a"), .str (Str.ofString "x y"), .str (Str.ofString "[a"), .str (Str.ofString "hello"), .str (Str.ofString "]b")] := rfl
theorem add_tup {xs ys : List D} (h : xs.length + ys.length ≤ 1000000) : addD (.tuple xs) (.tuple ys) = some (.tuple (xs ++ ys)) := by
  simp [addD, h]
theorem tree_turn {f d : Nat} (n : Int) (k : Int) (ih : 0 < d → ∀ m : Int, ∃ t : Tr, m__law_tree f [.int m, .int ((d : Int) - 1)] = some (.ok (.tuple t.ds)) ∧ t.len ≤ 3 ∧ t.ok (d - 1)) (acc : List Lf) (ha : ∀ l ∈ acc, l.ok d) (hl : acc.length ≤ 3) (s3 s4 s5 : SV) (h4 : noOwn [s3, s4, s5] 0 = true) :
    ∃ (l : Lf) (s4' s5' : SV), l.ok d ∧ lp__law_tree_0 (m__law_tree f) [.val (.int n), .val (.int (d : Nat)), .val (.tuple (acc.map Lf.d)), .val (.int k), s4, s5, .no] = some (.nx [.val (.int n), .val (.int (d : Nat)), .val (.tuple ((acc ++ [l]).map Lf.d)), .val (.int k), s4', s5', .no]) := by
  let w := drwZ n (30 + k)
  have hw := drwZ_pos n (30 + k)
  have d16 : fdivD (.int w) (.int 16) = some (.int (w / 16)) := fdivD_pos (by decide) (by decide)
  have q2 : modD (.int (w / 16)) (.int 2) = some (.int (w / 16 % 2)) := modD_pos (by decide)
  have d128 : fdivD (.int w) (.int 128) = some (.int (w / 128)) := fdivD_pos (by decide) (by decide)
  have q6 : modD (.int (w / 128)) (.int 6) = some (.int (w / 128 % 6)) := modD_pos (by decide)
  have q3 : modD (.int (w / 128)) (.int 3) = some (.int (w / 128 % 3)) := modD_pos (by decide)
  have d32 : fdivD (.int w) (.int 32) = some (.int (w / 32)) := fdivD_pos (by decide) (by decide)
  have q33 : modD (.int (w / 32)) (.int 3) = some (.int (w / 32 % 3)) := modD_pos (by decide)
  have h6 := mod_lt' (w / 128) (b := 6) (by decide)
  have h3 := mod_lt' (w / 128) (b := 3) (by decide)
  have h33 := mod_lt' (w / 32) (b := 3) (by decide)
  obtain ⟨x, e6, m6⟩ := ix_drawn (xs := [.str (Str.ofString ""), .str (Str.ofString "a"), .str (Str.ofString "x y"), .str (Str.ofString "[a"), .str (Str.ofString "hello"), .str (Str.ofString "]b")]) h6.1 h6.2
  obtain ⟨y, e3, m3⟩ := ix_drawn (xs := [.str (Str.ofString "a"), .str (Str.ofString "b"), .str (Str.ofString "cd")]) h3.1 h3.2
  rw [← treeTexts_d] at m6
  rw [← nameTexts_d] at m3
  obtain ⟨sx, mx, rfl⟩ := List.mem_map.mp m6
  obtain ⟨sy, my, rfl⟩ := List.mem_map.mp m3
  have hz : ∀ ys : List D, ys.length = 1 → addD (.tuple (acc.map Lf.d)) (.tuple ys) = some (.tuple (acc.map Lf.d ++ ys)) := fun ys hy => add_tup (by rw [List.length_map, hy]; omega)
  by_cases c : 0 < d ∧ w / 16 % 2 = 0
  · obtain ⟨ys, e, l, p⟩ := lc_some (rg := rgName 6) (re := rCall 2 (m__law_tree f) (rCons (rCall 2 m__law_drawn (rCons (rVar 4) (rCons (rVar 6) rNil))) (rCons (rOp subD (rVar 1) (rC (.int 1))) rNil))) (ρ := [.val (.int n), .val (.int (d : Nat)), .val (.tuple (acc.map Lf.d)), .val (.int k), .val (.int w), s5, .no]) (P := fun y => ∃ t : Tr, y = .tuple t.ds ∧ t.len ≤ 3 ∧ t.ok (d - 1)) (ds := rgLen 0 (1 + w / 32 % 3).toNat) fun x hx => by
      obtain ⟨i, hi, rfl⟩ := mem_rgLen hx
      obtain ⟨t, e1, e2, e3⟩ := ih c.1 (drwZ w (0 + (i : Int)))
      refine ⟨_, _, rfl, ?_, t, rfl, e2, e3⟩
      rw [← e1]
      simp [drawn_sem]
    rw [rgLen_len] at l
    obtain ⟨ps, e7, e8, e9⟩ := parts_of ys (by
      intro z
      rw [z] at l
      simp at l
      omega) p
    refine ⟨.lt sy ps, .val (.int w), .val (.tuple ys), ?_, ?_⟩
    · simp only [Lf.ok]
      exact ⟨my, by omega, c.1, e9⟩
    · have r1 := range1_nat (i := 1 + w / 32 % 3) (by omega) (by omega)
      have hl2 : (1 + w / 32 % 3).toNat ≤ 1000000 := by omega
      have hw' : drwZ n (30 + k) = w := rfl
      have h1 := hz [.tuple [.str sy, .tuple ys]] rfl
      simp [lp__law_tree_0, drawn_sem, hw', c.1, d16, q2, c.2, d32, q33, r1, rLc_ap, rgLen_len, hl2, e, d128, q3, e3, h1, Lf.d, e7]
  · refine ⟨.txt sx, .val (.int w), s5, ?_, ?_⟩
    · simp only [Lf.ok]
      exact mx
    · have hw' : drwZ n (30 + k) = w := rfl
      have h1 := hz [.str sx] rfl
      by_cases c0 : 0 < d
      · have c1 : ¬ w / 16 % 2 = 0 := fun z => c ⟨c0, z⟩
        simp [lp__law_tree_0, drawn_sem, hw', c0, d16, q2, c1, d128, q6, e6, h1, Lf.d]
      · have c1 : ¬ (0 : Int) < (d : Int) := by omega
        simp [lp__law_tree_0, drawn_sem, hw', show d = 0 by omega, d128, q6, e6, h1, Lf.d]
theorem tree_loop {f d : Nat} (n : Int) (ih : 0 < d → ∀ m : Int, ∃ t : Tr, m__law_tree f [.int m, .int ((d : Int) - 1)] = some (.ok (.tuple t.ds)) ∧ t.len ≤ 3 ∧ t.ok (d - 1)) : ∀ (ks : List Int) (acc : List Lf) (s3 s4 s5 : SV), (∀ l ∈ acc, l.ok d) → acc.length + ks.length ≤ 3 →
    ∃ (acc' : List Lf) (s3' s4' s5' : SV), (∀ l ∈ acc', l.ok d) ∧ acc'.length = acc.length + ks.length ∧ forL (rgName 3) (lp__law_tree_0 (m__law_tree f)) (ks.map PyData.int) [.val (.int n), .val (.int (d : Nat)), .val (.tuple (acc.map Lf.d)), s3, s4, s5, .no] = some (.nx [.val (.int n), .val (.int (d : Nat)), .val (.tuple (acc'.map Lf.d)), s3', s4', s5', .no])
  | [], acc, s3, s4, s5, ha, _ => ⟨acc, s3, s4, s5, ha, rfl, rfl⟩
  | k :: ks, acc, s3, s4, s5, ha, hl => by
    simp only [List.length_cons] at hl
    obtain ⟨l, s4', s5', ol, e⟩ := tree_turn n k ih acc ha (by omega) .no s4 s5 rfl
    obtain ⟨acc', a, b, c, o, el, e2⟩ := tree_loop n ih ks (acc ++ [l]) (.val (.int k)) s4' s5' (fun x hx => by
      rcases List.mem_append.mp hx with hx | hx
      · exact ha x hx
      · rw [List.mem_singleton.mp hx]; exact ol) (by simp; omega)
    refine ⟨acc', a, b, c, o, by simp at el ⊢; omega, ?_⟩
    simp only [List.map_cons, forL_cons, rgName_ap, List.set_cons_succ, List.set_cons_zero, e]
    exact e2
theorem rgLen_ints (lo : Int) (n : Nat) : ∃ ks : List Int, rgLen lo n = ks.map PyData.int ∧ ks.length = n := ⟨(List.range n).map fun (i : Nat) => lo + i, by simp [rgLen], by simp⟩
theorem tree_sem : ∀ (d f : Nat), d < f → ∀ n : Int, ∃ t : Tr, m__law_tree f [.int n, .int (d : Nat)] = some (.ok (.tuple t.ds)) ∧ t.len ≤ 3 ∧ t.ok d := by
  intro d
  induction d with
  | zero =>
    intro f hf n
    obtain ⟨f, rfl⟩ : ∃ k, f = k + 1 := ⟨f - 1, by omega⟩
    have h4 := mod_lt' (n / 16) (b := 4) (by decide)
    have d16 : fdivD (.int n) (.int 16) = some (.int (n / 16)) := fdivD_pos (by decide) (by decide)
    have q4 : modD (.int (n / 16)) (.int 4) = some (.int (n / 16 % 4)) := modD_pos (by decide)
    have r1 := range1_nat (i := n / 16 % 4) h4.1 (by omega)
    obtain ⟨ks, ek, lk⟩ := rgLen_ints 0 (n / 16 % 4).toNat
    obtain ⟨acc', a, b, c, o, el, e2⟩ := tree_loop (f := f) (d := 0) n (fun z => absurd z (by decide)) ks [] .no .no .no (by simp) (by simp; omega)
    refine ⟨Tr.of acc', ?_, by rw [Tr.of_len]; simp at el; omega, Tr.of_ok o⟩
    rw [m__law_tree_succ, Tr.of_ds]
    simp at e2
    simp [b__law_tree, fnSem_ap, d16, q4, r1, ek, e2]
  | succ d ih =>
    intro f hf n
    obtain ⟨f, rfl⟩ : ∃ k, f = k + 1 := ⟨f - 1, by omega⟩
    have h4 := mod_lt' (n / 16) (b := 4) (by decide)
    have d16 : fdivD (.int n) (.int 16) = some (.int (n / 16)) := fdivD_pos (by decide) (by decide)
    have q4 : modD (.int (n / 16)) (.int 4) = some (.int (n / 16 % 4)) := modD_pos (by decide)
    have r1 := range1_nat (i := n / 16 % 4) h4.1 (by omega)
    obtain ⟨ks, ek, lk⟩ := rgLen_ints 0 (n / 16 % 4).toNat
    obtain ⟨acc', a, b, c, o, el, e2⟩ := tree_loop (f := f) (d := d + 1) n (fun _ m => by
      have e : ((d + 1 : Nat) : Int) - 1 = (d : Int) := by omega
      rw [e]
      exact ih f (by omega) m) ks [] .no .no .no (by simp) (by simp; omega)
    refine ⟨Tr.of acc', ?_, by rw [Tr.of_len]; simp at el; omega, Tr.of_ok o⟩
    rw [m__law_tree_succ, Tr.of_ds]
    simp at e2
    simp [b__law_tree, fnSem_ap, d16, q4, r1, ek, e2]
theorem texts_good : ∀ s ∈ treeTexts ++ nameTexts ++ lineTexts, good 100 0 (.str s) = true ∧ lineS s = true := by decide +kernel
theorem names_name : ∀ s ∈ nameTexts, nameS s = true := by decide +kernel
mutual
theorem Tr.len_ds : ∀ t : Tr, t.ds.length = t.len
  | .nil => by simp [Tr.ds, Tr.len]
  | .cons l t => by simp [Tr.ds, Tr.len, Tr.len_ds t]
end
theorem Ps.len_ds : ∀ t : Ps, t.ds.length = t.len
  | .one t => by simp [Ps.ds, Ps.len]
  | .cons t ps => by simp [Ps.ds, Ps.len, Ps.len_ds ps]
mutual
theorem Tr.good_of : ∀ (t : Tr) (d : Nat), t.ok d → ∀ x ∈ t.ds, good 100 (3 * d) x = true ∧ (lineD x || letB (treeB d) x) = true
  | .nil, d, _, x, h => by simp [Tr.ds] at h
  | .cons l t, d, o, x, h => by
    simp only [Tr.ok] at o
    simp only [Tr.ds, List.mem_cons] at h
    rcases h with rfl | h
    · exact Lf.good_of l d o.1
    · exact Tr.good_of t d o.2 x h
theorem Lf.good_of : ∀ (l : Lf) (d : Nat), l.ok d → good 100 (3 * d) l.d = true ∧ (lineD l.d || letB (treeB d) l.d) = true
  | .txt s, d, o => by
    simp only [Lf.ok] at o
    have q := texts_good s (by simp [o])
    simp only [Lf.d]
    exact ⟨good_flat rfl q.1, by simp [lineD, q.2]⟩
  | .lt nm ps, d, o => by
    simp only [Lf.ok] at o
    obtain ⟨o1, o2, o3, o4⟩ := o
    obtain ⟨d, rfl⟩ : ∃ k, d = k + 1 := ⟨d - 1, by omega⟩
    have q := texts_good nm (by simp [o1])
    have qn := names_name nm o1
    have pq := Ps.good_of ps d o4
    simp only [Lf.d]
    have e : 3 * (d + 1) = 3 * d + 1 + 1 + 1 := by omega
    rw [e]
    have lp := Ps.len_ds ps
    refine ⟨good_tup.mpr ⟨by simp, fun x hx => ?_⟩, ?_⟩
    · simp at hx
      rcases hx with rfl | rfl
      · exact good_flat rfl q.1
      · exact good_tup.mpr ⟨by omega, fun x hx => (pq x hx).1⟩
    · have ne : ps.ds ≠ [] := by cases ps <;> simp [Ps.ds]
      have e2 : ps.ds.all (treeB (d + 1)) = true := List.all_eq_true.mpr fun x hx => (pq x hx).2
      simp [lineD, letB, nameD, qn, ne]
      simpa using e2
theorem Ps.good_of : ∀ (ps : Ps) (d : Nat), ps.ok d → ∀ x ∈ ps.ds, good 100 (3 * d + 1) x = true ∧ treeB (d + 1) x = true
  | .one t, d, o, x, h => by
    simp only [Ps.ok] at o
    simp only [Ps.ds, List.mem_singleton] at h
    subst h
    have q := Tr.good_of t d o.2
    have l := Tr.len_ds t
    exact ⟨good_tup.mpr ⟨by omega, fun x hx => (q x hx).1⟩, by simp only [treeB]; exact List.all_eq_true.mpr fun x hx => (q x hx).2⟩
  | .cons t ps, d, o, x, h => by
    simp only [Ps.ok] at o
    simp only [Ps.ds, List.mem_cons] at h
    rcases h with rfl | h
    · have q := Tr.good_of t d o.1.2
      have l := Tr.len_ds t
      exact ⟨good_tup.mpr ⟨by omega, fun x hx => (q x hx).1⟩, by simp only [treeB]; exact List.all_eq_true.mpr fun x hx => (q x hx).2⟩
    · exact Ps.good_of ps d o.2 x h
end
theorem tree_good {t : Tr} {d : Nat} (h : t.ok d) (l : t.len ≤ 3) : good 100 (3 * d + 1) (.tuple t.ds) = true ∧ treeB (d + 1) (.tuple t.ds) = true := by
  have q := Tr.good_of t d h
  have l2 := Tr.len_ds t
  exact ⟨good_tup.mpr ⟨by omega, fun x hx => (q x hx).1⟩, by simp only [treeB]; exact List.all_eq_true.mpr fun x hx => (q x hx).2⟩
theorem rowIn_good {r : D} (h : RowIn r) : good 100 1 r = true ∧ rowD r = true := by
  rcases h with ⟨t, ht, rfl⟩ | ⟨w, hw, t, ht, rfl⟩
  · have q := texts_good t (by simp [ht])
    refine ⟨good_tup.mpr ⟨by simp, fun x hx => ?_⟩, by simp [rowD, lineD, q.2]⟩
    simp at hx
    rcases hx with rfl | rfl
    · decide +kernel
    · exact q.1
  · have q := texts_good t (by simp [ht])
    have qn := names_name t ht
    have gw : ∀ w ∈ [sOpen, sNext, sClose], good 100 0 (.str w) = true ∧ bordS w = true := by decide +kernel
    refine ⟨good_tup.mpr ⟨by simp, fun x hx => ?_⟩, by simp [rowD, nameD, qn, (gw w hw).2]⟩
    simp at hx
    rcases hx with rfl | rfl
    · exact (gw w hw).1
    · exact q.1
theorem rows_good {rs : List D} (h : ∀ r ∈ rs, RowIn r) (l : rs.length ≤ 100) : good 100 2 (.tuple rs) = true := good_tup.mpr ⟨l, fun r hr => (rowIn_good (h r hr)).1⟩
mutual
def noB : D → Bool
  | .none => true
  | .bool _ => false
  | .int _ => true
  | .str _ => true
  | .list xs => noBs xs
  | .tuple xs => noBs xs
  | .dict _ => false
def noBs : List D → Bool
  | [] => true
  | x :: xs => noB x && noBs xs
end
theorem noBs_iff {xs : List D} : noBs xs = true ↔ ∀ x ∈ xs, noB x = true := by
  induction xs with
  | nil => simp [noBs]
  | cons x xs ih => simp [noBs, ih]
mutual
theorem eqv_eq : ∀ (a b : D), noB a = true → noB b = true → PyData.eqv a b = true → a = b
  | .none, b, _, hb, h => by cases b <;> simp [PyData.eqv, noB] at h hb ⊢
  | .bool _, _, ha, _, _ => by simp [noB] at ha
  | .int i, b, _, hb, h => by cases b <;> simp [PyData.eqv, noB] at h hb ⊢; exact h
  | .str i, b, _, hb, h => by cases b <;> simp [PyData.eqv, noB] at h hb ⊢; exact h
  | .list xs, b, ha, hb, h => by
    cases b with
    | list ys => simp only [PyData.eqv, noB] at h ha hb; rw [eqvs_eq xs ys ha hb h]
    | _ => simp [PyData.eqv] at h
  | .tuple xs, b, ha, hb, h => by
    cases b with
    | tuple ys => simp only [PyData.eqv, noB] at h ha hb; rw [eqvs_eq xs ys ha hb h]
    | _ => simp [PyData.eqv] at h
  | .dict _, _, ha, _, _ => by simp [noB] at ha
theorem eqvs_eq : ∀ (a b : List D), noBs a = true → noBs b = true → PyData.eqvAll a b = true → a = b
  | [], [], _, _, _ => rfl
  | [], _ :: _, _, _, h => by simp [PyData.eqvAll] at h
  | _ :: _, [], _, _, h => by simp [PyData.eqvAll] at h
  | x :: xs, y :: ys, ha, hb, h => by
    simp only [PyData.eqvAll, noBs, Bool.and_eq_true] at h ha hb
    rw [eqv_eq x y ha.1 hb.1 h.1, eqvs_eq xs ys ha.2 hb.2 h.2]
end
theorem eqv_self {d : D} (h : SeqAt.shaped d = true) : PyData.eqv d d = true := SeqAt.eqv_refl d (SeqAt.canLay_of_shaped h)
theorem eqD_self {d : D} (h : SeqAt.shaped d = true) : eqD d d = some (.bool true) := by
  unfold eqD
  rw [if_pos ⟨h, h⟩, eqv_self h]
theorem neD_self {d : D} (h : SeqAt.shaped d = true) : neD d d = some (.bool false) := by
  unfold neD
  rw [if_pos ⟨h, h⟩, eqv_self h]
  rfl
theorem eqD_of {a b : D} (ha : SeqAt.shaped a = true) (hb : SeqAt.shaped b = true) : eqD a b = some (.bool (PyData.eqv a b)) := by
  unfold eqD
  rw [if_pos ⟨ha, hb⟩]
theorem neD_of {a b : D} (ha : SeqAt.shaped a = true) (hb : SeqAt.shaped b = true) : neD a b = some (.bool (!PyData.eqv a b)) := by
  unfold neD
  rw [if_pos ⟨ha, hb⟩]
open Classical in
theorem eqv_dec {a b : D} (sa : SeqAt.shaped a = true) (ha : noB a = true) (hb : noB b = true) : PyData.eqv a b = decide (a = b) := by
  by_cases h : a = b
  · subst h; rw [eqv_self sa]; simp
  · cases c : PyData.eqv a b with
    | true => exact absurd (eqv_eq a b ha hb c) h
    | false => simp [h]
abbrev Rw := Str × Str
def Rw.d (r : Rw) : D := .tuple [.str r.1, .str r.2]
def rsD (rs : List Rw) : D := .tuple (rs.map Rw.d)
mutual
def Tr.rows : Tr → List Rw
  | .nil => []
  | .cons l t => l.rows ++ t.rows
def Lf.rows : Lf → List Rw
  | .txt s => [(sLine, s)]
  | .lt nm ps => ps.rows nm sOpen ++ [(sClose, nm)]
def Ps.rows : Ps → Str → Str → List Rw
  | .one t, nm, w => (w, nm) :: t.rows
  | .cons t ps, nm, w => (w, nm) :: (t.rows ++ ps.rows nm sNext)
end
mutual
def Tr.fn (d : Nat) : Tr → Prop
  | .nil => True
  | .cons l t => l.fn d ∧ t.fn d
def Lf.fn (d : Nat) : Lf → Prop
  | .txt s => good 100 0 (.str s) = true ∧ lineS s = true
  | .lt nm ps => (good 100 0 (.str nm) = true ∧ nameS nm = true) ∧ ps.len ≤ 3 ∧ 0 < d ∧ ps.fn (d - 1)
def Ps.fn (d : Nat) : Ps → Prop
  | .one t => t.len ≤ 6 ∧ t.fn d
  | .cons t ps => (t.len ≤ 6 ∧ t.fn d) ∧ ps.fn d
end
mutual
theorem Tr.fn_of : ∀ (t : Tr) (d : Nat), t.ok d → t.fn d
  | .nil, d, _ => by simp [Tr.fn]
  | .cons l t, d, h => by simp only [Tr.ok] at h; simp only [Tr.fn]; exact ⟨Lf.fn_of l d h.1, Tr.fn_of t d h.2⟩
theorem Lf.fn_of : ∀ (l : Lf) (d : Nat), l.ok d → l.fn d
  | .txt s, d, h => by simp only [Lf.ok] at h; simp only [Lf.fn]; exact texts_good s (by simp [h])
  | .lt nm ps, d, h => by
    simp only [Lf.ok] at h
    simp only [Lf.fn]
    exact ⟨⟨(texts_good nm (by simp [h.1])).1, names_name nm h.1⟩, h.2.1, h.2.2.1, Ps.fn_of ps (d - 1) h.2.2.2⟩
theorem Ps.fn_of : ∀ (ps : Ps) (d : Nat), ps.ok d → ps.fn d
  | .one t, d, h => by simp only [Ps.ok] at h; simp only [Ps.fn]; exact ⟨by omega, Tr.fn_of t d h.2⟩
  | .cons t ps, d, h => by simp only [Ps.ok] at h; simp only [Ps.fn]; exact ⟨⟨by omega, Tr.fn_of t d h.1.2⟩, Ps.fn_of ps d h.2⟩
end
def Tr.app : Tr → Tr → Tr
  | .nil, u => u
  | .cons l t, u => .cons l (t.app u)
theorem Tr.app_ds : ∀ t u : Tr, (t.app u).ds = t.ds ++ u.ds
  | .nil, u => by simp [Tr.app, Tr.ds]
  | .cons l t, u => by simp [Tr.app, Tr.ds, Tr.app_ds t u]
theorem Tr.app_len : ∀ t u : Tr, (t.app u).len = t.len + u.len
  | .nil, u => by simp [Tr.app, Tr.len]
  | .cons l t, u => by simp [Tr.app, Tr.len, Tr.app_len t u]; omega
theorem Tr.app_rows : ∀ t u : Tr, (t.app u).rows = t.rows ++ u.rows
  | .nil, u => by simp [Tr.app, Tr.rows]
  | .cons l t, u => by simp [Tr.app, Tr.rows, Tr.app_rows t u]
theorem Tr.app_fn {d : Nat} : ∀ {t u : Tr}, t.fn d → u.fn d → (t.app u).fn d
  | .nil, u, _, h => by simpa [Tr.app] using h
  | .cons l t, u, h, k => by
    simp only [Tr.fn] at h
    simp only [Tr.app, Tr.fn]
    exact ⟨h.1, Tr.app_fn h.2 k⟩
mutual
theorem Tr.fn_mono {d e : Nat} (hde : d ≤ e) : ∀ t : Tr, t.fn d → t.fn e
  | .nil, _ => by simp [Tr.fn]
  | .cons l t, h => by simp only [Tr.fn] at h ⊢; exact ⟨Lf.fn_mono hde l h.1, Tr.fn_mono hde t h.2⟩
theorem Lf.fn_mono {d e : Nat} (hde : d ≤ e) : ∀ l : Lf, l.fn d → l.fn e
  | .txt s, h => by simpa [Lf.fn] using h
  | .lt nm ps, h => by
    simp only [Lf.fn] at h ⊢
    exact ⟨h.1, h.2.1, by omega, Ps.fn_mono (by omega) ps h.2.2.2⟩
theorem Ps.fn_mono {d e : Nat} (hde : d ≤ e) : ∀ ps : Ps, ps.fn d → ps.fn e
  | .one t, h => by simp only [Ps.fn] at h ⊢; exact ⟨h.1, Tr.fn_mono hde t h.2⟩
  | .cons t ps, h => by simp only [Ps.fn] at h ⊢; exact ⟨⟨h.1.1, Tr.fn_mono hde t h.1.2⟩, Ps.fn_mono hde ps h.2⟩
end
def cMax : Nat → Nat
  | 0 => 1
  | d + 1 => 4 + 18 * cMax d
theorem cMax_pos : ∀ d, 1 ≤ cMax d
  | 0 => by simp [cMax]
  | d + 1 => by simp [cMax]; omega
mutual
theorem Tr.rows_len : ∀ (t : Tr) (d : Nat), t.fn d → t.rows.length ≤ t.len * cMax d
  | .nil, d, _ => by simp [Tr.rows, Tr.len]
  | .cons l t, d, h => by
    simp only [Tr.fn] at h
    have a := Lf.rows_len l d h.1
    have b := Tr.rows_len t d h.2
    simp only [Tr.rows, Tr.len, List.length_append, Nat.add_mul]
    omega
theorem Lf.rows_len : ∀ (l : Lf) (d : Nat), l.fn d → l.rows.length ≤ cMax d
  | .txt s, d, _ => by simp [Lf.rows]; exact cMax_pos d
  | .lt nm ps, d, h => by
    simp only [Lf.fn] at h
    obtain ⟨_, h2, h3, h4⟩ := h
    obtain ⟨d, rfl⟩ : ∃ k, d = k + 1 := ⟨d - 1, by omega⟩
    have a := Ps.rows_len ps d h4 nm sOpen
    simp only [Lf.rows, List.length_append, List.length_singleton, cMax]
    have : ps.len * (1 + 6 * cMax d) ≤ 3 * (1 + 6 * cMax d) := Nat.mul_le_mul_right _ h2
    omega
theorem Ps.rows_len : ∀ (ps : Ps) (d : Nat), ps.fn d → ∀ nm w, (ps.rows nm w).length ≤ ps.len * (1 + 6 * cMax d)
  | .one t, d, h, nm, w => by
    simp only [Ps.fn] at h
    have a := Tr.rows_len t d h.2
    have : t.len * cMax d ≤ 6 * cMax d := Nat.mul_le_mul_right _ h.1
    simp only [Ps.rows, Ps.len, List.length_cons]
    omega
  | .cons t ps, d, h, nm, w => by
    simp only [Ps.fn] at h
    have a := Tr.rows_len t d h.1.2
    have : t.len * cMax d ≤ 6 * cMax d := Nat.mul_le_mul_right _ h.1.1
    have b := Ps.rows_len ps d h.2 nm sNext
    simp only [Ps.rows, Ps.len, List.length_cons, List.length_append, Nat.add_mul]
    omega
end
theorem add_rs {a b : List Rw} (h : a.length + b.length ≤ 1000000) : addD (rsD a) (rsD b) = some (rsD (a ++ b)) := by
  unfold rsD
  rw [add_tup (by simpa using h), List.map_append]
theorem rs_one (w x : Str) : (.tuple [.tuple [.str w, .str x]] : D) = rsD [(w, x)] := rfl
theorem cut_from {α : Type} (xs : List α) (n : Nat) : cutL xs (some (n : Int)) none = xs.drop n := by
  unfold cutL
  rw [HT.sIx_nat, HT.sIx_none]
  by_cases h : n ≤ xs.length
  · rw [Nat.min_eq_left h]
    exact List.take_of_length_le (by simp)
  · rw [Nat.min_eq_right (by omega), List.drop_eq_nil_of_le (Nat.le_refl _), List.drop_eq_nil_of_le (by omega), List.take_nil]
theorem cut_to {α : Type} (xs : List α) (n : Nat) : cutL xs none (some (n : Int)) = xs.take n := by
  unfold cutL
  rw [HT.sIx_nat, HT.sIx_none, List.drop_zero, Nat.sub_zero]
  by_cases h : n ≤ xs.length
  · rw [Nat.min_eq_left h]
  · rw [Nat.min_eq_right (by omega), List.take_of_length_le (Nat.le_refl _), List.take_of_length_le (by omega)]
theorem isi_st (xs : List D) : isiB "str" (.tuple xs) = false := by simp [isiB, tyName]
def RwOk (r : Rw) : Prop := r.1 ∈ [sLine, sOpen, sNext, sClose] ∧ good 100 0 (.str r.2) = true
theorem words_good : ∀ w ∈ [sLine, sOpen, sNext, sClose], good 100 0 (.str w) = true := by decide +kernel
theorem str_shaped {s : Str} (h : good 100 0 (.str s) = true) : SeqAt.shaped (.str s) = true := good_shaped h (by decide)
theorem RwOk.d_good {r : Rw} (h : RwOk r) : good 100 1 r.d = true := by
  refine good_tup.mpr ⟨by simp, fun x hx => ?_⟩
  simp at hx
  rcases hx with rfl | rfl
  · exact words_good _ h.1
  · exact h.2
def scan : List Rw → List Str → Nat → List Str × Option Nat
  | [], st, _ => (st, none)
  | (w, x) :: r, st, k => if w = sOpen then scan r (st ++ [x]) (k + 1) else if w = sLine then scan r st (k + 1)
    else if st.getLast? = some x then (if w = sClose then scan r st.dropLast (k + 1) else scan r st (k + 1)) else (st, some (k + 1))
theorem ix_last (st : List Str) (x : Str) (h : st.getLast? = some x) : ixD (.list (st.map PyData.str)) (.int (-1)) = some (.str x) := by
  obtain ⟨r, rfl⟩ := List.getLast?_eq_some_iff.mp h
  rw [List.map_append]
  exact DL.atI_last _ _
theorem eqD_str {a b : Str} (ha : good 100 0 (.str a) = true) (hb : good 100 0 (.str b) = true) : eqD (.str a) (.str b) = some (.bool (decide (a = b))) := by
  rw [eq_str (str_shaped ha) (str_shaped hb)]
  by_cases h : a = b <;> simp [h]
theorem neD_str {a b : Str} (ha : good 100 0 (.str a) = true) (hb : good 100 0 (.str b) = true) : neD (.str a) (.str b) = some (.bool (!decide (a = b))) := by
  rw [neD_of (str_shaped ha) (str_shaped hb)]
  simp only [PyData.eqv]
  by_cases h : a = b <;> simp [h]
theorem w_lo : sLine ≠ sOpen := by decide +kernel
theorem w_no : sNext ≠ sOpen := by decide +kernel
theorem w_co : sClose ≠ sOpen := by decide +kernel
theorem w_nl : sNext ≠ sLine := by decide +kernel
theorem w_cl : sClose ≠ sLine := by decide +kernel
theorem w_nc : sNext ≠ sClose := by decide +kernel
theorem w_ol : sOpen ≠ sLine := by decide +kernel
section
variable (st : List Str) (k : Nat) (v0 : SV) (x : Str)
end
def opOut (v0 : SV) (s2 s3 : SV) : List Str × Option Nat → Option Out
  | (st, none) => some (.nx [v0, .own (st.map PyData.str), s2, s3])
  | (st, some c) => some (.rt (.tuple [.list (st.map PyData.str), .int (c : Nat)]))
def scanD : List Str × Option Nat → D
  | (st, none) => .tuple [.list (st.map PyData.str), .none]
  | (st, some c) => .tuple [.list (st.map PyData.str), .int (c : Nat)]
theorem scan_inv (P : Str → Prop) : ∀ (rs : List Rw) (st : List Str) (k : Nat), (∀ r ∈ rs, P r.2) → (∀ s ∈ st, P s) → (∀ s ∈ (scan rs st k).1, P s) ∧ (scan rs st k).1.length ≤ st.length + rs.length
  | [], st, k, _, h => ⟨h, by simp [scan]⟩
  | (w, x) :: rs, st, k, hr, hs => by
    have hr' : ∀ r ∈ rs, P r.2 := fun r h => hr r (List.mem_cons_of_mem _ h)
    have hx : P x := hr (w, x) List.mem_cons_self
    simp only [scan, List.length_cons]
    split
    · have := scan_inv P rs (st ++ [x]) (k + 1) hr' (fun s h => by
        rcases List.mem_append.mp h with h | h
        · exact hs s h
        · rw [List.mem_singleton.mp h]; exact hx)
      rw [List.length_append, List.length_singleton] at this
      exact ⟨this.1, by omega⟩
    · split
      · have := scan_inv P rs st (k + 1) hr' hs
        exact ⟨this.1, by omega⟩
      · split
        · split
          · have := scan_inv P rs st.dropLast (k + 1) hr' fun s h => hs s (List.dropLast_subset _ h)
            rw [List.length_dropLast] at this
            exact ⟨this.1, by omega⟩
          · have := scan_inv P rs st (k + 1) hr' hs
            exact ⟨this.1, by omega⟩
        · exact ⟨hs, by simp only; omega⟩
def scanThen (ys : List Rw) (k : Nat) : List Str × Option Nat → List Str × Option Nat
  | (st, none) => scan ys st k
  | r => r
theorem scan_app (ys : List Rw) : ∀ (xs : List Rw) (st : List Str) (k : Nat), scan (xs ++ ys) st k = scanThen ys (k + xs.length) (scan xs st k)
  | [], st, k => by simp [scan, scanThen]
  | (w, x) :: xs, st, k => by
    have e : k + (xs.length + 1) = k + 1 + xs.length := by omega
    simp only [List.cons_append, scan, List.length_cons, e]
    split
    · exact scan_app ys xs _ _
    · split
      · exact scan_app ys xs _ _
      · split
        · split
          · exact scan_app ys xs _ _
          · exact scan_app ys xs _ _
        · rfl
theorem scan_app_none {xs ys : List Rw} {st st' : List Str} {k : Nat} (h : scan xs st k = (st', none)) : scan (xs ++ ys) st k = scan ys st' (k + xs.length) := by
  rw [scan_app, h]; rfl
theorem scan_app_some {xs ys : List Rw} {st st' : List Str} {k c : Nat} (h : scan xs st k = (st', some c)) : scan (xs ++ ys) st k = (st', some c) := by
  rw [scan_app, h]; rfl
theorem scan_shift : ∀ (rs : List Rw) (st : List Str) (k j : Nat), scan rs st (k + j) = ((scan rs st k).1, (scan rs st k).2.map (· + j))
  | [], st, k, j => by simp [scan]
  | (w, x) :: rs, st, k, j => by
    have e : k + j + 1 = k + 1 + j := by omega
    simp only [scan, e]
    split
    · exact scan_shift rs _ _ _
    · split
      · exact scan_shift rs _ _ _
      · split
        · split
          · exact scan_shift rs _ _ _
          · exact scan_shift rs _ _ _
        · rfl
theorem scan_any {rs : List Rw} {st st' : List Str} {k : Nat} (h : scan rs st k = (st', none)) (j : Nat) : scan rs st j = (st', none) := by
  have a := scan_shift rs st 0 k
  have b := scan_shift rs st 0 j
  rw [Nat.zero_add] at a b
  rw [h] at a
  rw [b]
  simp only [Prod.mk.injEq] at a
  have a2 := a.2.symm
  rw [Option.map_eq_none_iff] at a2
  rw [a2, ← a.1]
  rfl
theorem scan_stuck : ∀ (rs : List Rw) (st st' : List Str) (k c : Nat), scan rs st k = (st', some c) → k < c ∧ c ≤ k + rs.length ∧ scan (rs.take (c - k)) st k = (st', some c) ∧ (scan (rs.take (c - 1 - k)) st k).2 = none
  | [], st, st', k, c, h => by simp [scan] at h
  | (w, x) :: rs, st, st', k, c, h => by
    have step : ∀ (s1 : List Str), scan rs s1 (k + 1) = (st', some c) → k + 1 < c ∧ c ≤ k + 1 + rs.length ∧ scan (rs.take (c - (k + 1))) s1 (k + 1) = (st', some c) ∧ (scan (rs.take (c - 1 - (k + 1))) s1 (k + 1)).2 = none := fun s1 q => scan_stuck rs s1 st' (k + 1) c q
    have t1 : k + 1 < c → ((w, x) :: rs).take (c - k) = (w, x) :: rs.take (c - (k + 1)) := fun q => by
      have e : c - k = c - (k + 1) + 1 := by omega
      rw [e, List.take_succ_cons]
    have t2 : k + 1 < c → ((w, x) :: rs).take (c - 1 - k) = (w, x) :: rs.take (c - 1 - (k + 1)) := fun q => by
      have e : c - 1 - k = c - 1 - (k + 1) + 1 := by omega
      rw [e, List.take_succ_cons]
    simp only [scan] at h
    simp only [List.length_cons]
    split at h
    · rename_i c1
      obtain ⟨q1, q2, q3, q4⟩ := step _ h
      rw [t1 q1, t2 q1]
      simp only [scan, if_pos c1]
      exact ⟨by omega, by omega, q3, q4⟩
    · rename_i c1
      split at h
      · rename_i c2
        obtain ⟨q1, q2, q3, q4⟩ := step _ h
        rw [t1 q1, t2 q1]
        simp only [scan, if_neg c1, if_pos c2]
        exact ⟨by omega, by omega, q3, q4⟩
      · rename_i c2
        split at h
        · rename_i c3
          split at h
          · rename_i c4
            obtain ⟨q1, q2, q3, q4⟩ := step _ h
            rw [t1 q1, t2 q1]
            simp only [scan, if_neg c1, if_neg c2, if_pos c3, if_pos c4]
            exact ⟨by omega, by omega, q3, q4⟩
          · rename_i c4
            obtain ⟨q1, q2, q3, q4⟩ := step _ h
            rw [t1 q1, t2 q1]
            simp only [scan, if_neg c1, if_neg c2, if_pos c3, if_neg c4]
            exact ⟨by omega, by omega, q3, q4⟩
        · rename_i c3
          simp only [Prod.mk.injEq, Option.some.injEq] at h
          obtain ⟨rfl, rfl⟩ := h
          have e1 : k + 1 - k = 1 := by omega
          have e2 : k + 1 - 1 - k = 0 := by omega
          rw [e1, e2]
          refine ⟨by omega, by omega, ?_, rfl⟩
          simp only [List.take_succ_cons, List.take_zero, scan, if_neg c1, if_neg c2, if_neg c3]
mutual
theorem Tr.scan : ∀ (t : Tr) (st : List Str) (k : Nat), B.scan t.rows st k = (st, none)
  | .nil, st, k => by simp [Tr.rows, B.scan]
  | .cons l t, st, k => by
    simp only [Tr.rows]
    rw [scan_app_none (Lf.scan l st k)]
    exact Tr.scan t st _
theorem Lf.scan : ∀ (l : Lf) (st : List Str) (k : Nat), B.scan l.rows st k = (st, none)
  | .txt s, st, k => by simp [Lf.rows, B.scan, w_lo]
  | .lt nm ps, st, k => by
    simp only [Lf.rows]
    have e : B.scan (ps.rows nm sOpen) st k = (st ++ [nm], none) := by
      cases ps with
      | one t =>
        simp only [Ps.rows, B.scan, if_pos]
        exact Tr.scan t _ _
      | cons t ps =>
        simp only [Ps.rows, B.scan, if_pos]
        rw [scan_app_none (Tr.scan t _ _)]
        exact Ps.scan ps nm _ _ (by simp)
    rw [scan_app_none e]
    simp [B.scan, w_co, w_cl]
theorem Ps.scan : ∀ (ps : Ps) (nm : Str) (st : List Str) (k : Nat), st.getLast? = some nm → B.scan (ps.rows nm sNext) st k = (st, none)
  | .one t, nm, st, k, h => by
    simp only [Ps.rows, B.scan, if_neg w_no, if_neg w_nl, if_pos h, if_neg w_nc]
    exact Tr.scan t _ _
  | .cons t ps, nm, st, k, h => by
    simp only [Ps.rows, B.scan, if_neg w_no, if_neg w_nl, if_pos h, if_neg w_nc]
    rw [scan_app_none (Tr.scan t _ _)]
    exact Ps.scan ps nm _ _ h
end
def closes (st : List Str) : List Rw := st.reverse.map fun s => (sClose, s)
theorem scan_closes : ∀ (n : Nat) (st : List Str) (k : Nat), st.length = n → scan (closes st) st k = ([], none)
  | 0, st, k, h => by rw [List.length_eq_zero_iff.mp h]; rfl
  | n + 1, st, k, h => by
    have ne : st ≠ [] := fun z => by rw [z] at h; cases h
    obtain ⟨r, y, rfl⟩ : ∃ r y, st = r ++ [y] := ⟨st.dropLast, st.getLast ne, (List.dropLast_concat_getLast ne).symm⟩
    have e : closes (r ++ [y]) = (sClose, y) :: closes r := by simp [closes]
    rw [e]
    simp only [scan, if_neg w_co, if_neg w_cl, List.getLast?_append, List.getLast?_singleton, Option.some_or, if_pos, List.dropLast_concat]
    exact scan_closes n r _ (by simpa using h)
theorem scan_prefix {rs : List Rw} {st st' : List Str} {k : Nat} (h : scan rs st k = (st', none)) (n : Nat) : ∃ s1, scan (rs.take n) st k = (s1, none) ∧ scan (rs.drop n) s1 (k + (rs.take n).length) = (st', none) := by
  have e := scan_app (rs.drop n) (rs.take n) st k
  rw [List.take_append_drop, h] at e
  cases c : scan (rs.take n) st k with
  | mk s1 o =>
    rw [c] at e
    cases o with
    | none => exact ⟨s1, rfl, e.symm⟩
    | some m => simp [scanThen] at e
def optD : Option Nat → D
  | none => .none
  | some c => .int (c : Nat)
theorem strs_shaped {st : List Str} (h : ∀ s ∈ st, good 100 0 (.str s) = true) (hl : st.length ≤ 1000000) : good 1000000 1 (.list (st.map PyData.str)) = true ∧ good 1000000 1 (.tuple (st.map PyData.str)) = true := by
  refine ⟨good_lst.mpr ⟨by simpa using hl, fun x hx => ?_⟩, good_tup.mpr ⟨by simpa using hl, fun x hx => ?_⟩⟩ <;>
  · obtain ⟨s, hs, rfl⟩ := List.mem_map.mp hx
    exact good_mono (by decide) (Nat.le_refl _) (h s hs)
theorem scan_good {rs : List Rw} (h : ∀ r ∈ rs, RwOk r) (k : Nat) : (∀ s ∈ (scan rs [] k).1, good 100 0 (.str s) = true) ∧ (scan rs [] k).1.length ≤ rs.length := by
  have q := scan_inv (fun s => good 100 0 (.str s) = true) rs [] k (fun r hr => (h r hr).2) (by simp)
  exact ⟨q.1, by simpa using q.2⟩
theorem wl_eq : wLINE = sLine := rfl
theorem wo_eq : wOPEN = sOpen := rfl
theorem wn_eq : wNEXT = sNext := rfl
theorem run_row {w x : Str} {rest : List D} {fs fs' : List Fr} (hw : w ∈ [sLine, sOpen, sNext, sClose]) (h : stStep w x fs = some fs') : stRun (Rw.d (w, x) :: rest) fs = stRun rest fs' := by
  simp only [Rw.d, stRun, h, if_pos (str_shaped (words_good w hw))]
theorem step_line {x n : Str} {ds : List D} {dss : List (List D)} {r : List Fr} (h : ds.length < 1000000) : stStep sLine x ((n, ds :: dss) :: r) = some ((n, (ds ++ [.str x]) :: dss) :: r) := by
  simp [stStep, wl_eq, h]
theorem step_open {x : Str} {fs : List Fr} (h : fs.length < 1000000) : stStep sOpen x fs = some ((x, [[]]) :: fs) := by
  simp [stStep, wl_eq, wo_eq, w_ol, h]
theorem step_next {x n : Str} {dss : List (List D)} {r : List Fr} (h : dss.length < 1000000) : stStep sNext x ((n, dss) :: r) = some ((n, [] :: dss) :: r) := by
  simp [stStep, wl_eq, wo_eq, wn_eq, w_no, w_nl, h]
theorem w_cn : sClose ≠ sNext := fun h => w_nc h.symm
theorem step_close {x n m : Str} {ds : List D} {dss ess : List (List D)} {r : List Fr} (h : ds.length < 1000000) (h2 : dss.length ≤ 1000000) : stStep sClose x ((n, dss) :: (m, ds :: ess) :: r) = some ((m, (ds ++ [.tuple [.str n, .tuple (dss.reverse.map PyData.tuple)]]) :: ess) :: r) := by
  simp [stStep, wl_eq, wo_eq, wn_eq, w_co, w_cl, w_cn, h, h2]
def Ps.trs : Ps → List (List D)
  | .one t => [t.ds]
  | .cons t ps => t.ds :: ps.trs
theorem Ps.trs_ds : ∀ ps : Ps, ps.ds = ps.trs.map PyData.tuple
  | .one t => by simp [Ps.ds, Ps.trs]
  | .cons t ps => by simp [Ps.ds, Ps.trs, Ps.trs_ds ps]
theorem Ps.trs_len : ∀ ps : Ps, ps.trs.length = ps.len
  | .one t => by simp [Ps.trs, Ps.len]
  | .cons t ps => by simp [Ps.trs, Ps.len, Ps.trs_len ps]
mutual
theorem Tr.run : ∀ (t : Tr) (d : Nat) (rest : List D) (n : Str) (ds : List D) (dss : List (List D)) (r : List Fr), t.fn d → ds.length + t.len ≤ 1000000 → r.length + d < 900000 →
    stRun (t.rows.map Rw.d ++ rest) ((n, ds :: dss) :: r) = stRun rest ((n, (ds ++ t.ds) :: dss) :: r)
  | .nil, d, rest, n, ds, dss, r, _, _, _ => by simp [Tr.rows, Tr.ds]
  | .cons l t, d, rest, n, ds, dss, r, h, h1, h2 => by
    simp only [Tr.fn] at h
    simp only [Tr.len] at h1
    simp only [Tr.rows, List.map_append, List.append_assoc, Tr.ds]
    rw [Lf.run l d _ n ds dss r h.1 (by omega) h2, Tr.run t d _ n _ dss r h.2 (by simp; omega) h2]
    simp
theorem Lf.run : ∀ (l : Lf) (d : Nat) (rest : List D) (n : Str) (ds : List D) (dss : List (List D)) (r : List Fr), l.fn d → ds.length < 1000000 → r.length + d < 900000 →
    stRun (l.rows.map Rw.d ++ rest) ((n, ds :: dss) :: r) = stRun rest ((n, (ds ++ [l.d]) :: dss) :: r)
  | .txt s, d, rest, n, ds, dss, r, _, h1, _ => by
    simp only [Lf.rows, List.map_cons, List.map_nil, List.cons_append, List.nil_append, Lf.d]
    exact run_row (by simp) (step_line h1)
  | .lt nm ps, d, rest, n, ds, dss, r, h, h1, h2 => by
    simp only [Lf.fn] at h
    obtain ⟨_, h4, h5, h6⟩ := h
    have lp := Ps.trs_len ps
    simp only [Lf.rows, List.map_append, List.map_cons, List.map_nil, List.append_assoc, List.cons_append, List.nil_append, Lf.d]
    have e : stRun ((ps.rows nm sOpen).map Rw.d ++ (Rw.d (sClose, nm) :: rest)) ((n, ds :: dss) :: r) = stRun (Rw.d (sClose, nm) :: rest) ((nm, ps.trs.reverse) :: (n, ds :: dss) :: r) := by
      cases ps with
      | one t =>
        simp only [Ps.fn] at h6
        simp only [Ps.rows, List.map_cons, List.cons_append]
        rw [run_row (by simp) (step_open (by simp; omega)), Tr.run t (d - 1) _ nm [] [] _ h6.2 (by simp; omega) (by simp; omega)]
        simp [Ps.trs]
      | cons t ps =>
        simp only [Ps.fn] at h6
        simp only [Ps.len] at h4
        simp only [Ps.rows, List.map_cons, List.cons_append, List.map_append, List.append_assoc]
        rw [run_row (by simp) (step_open (by simp; omega)), Tr.run t (d - 1) _ nm [] [] _ h6.1.2 (by simp; omega) (by simp; omega), Ps.run ps (d - 1) _ nm _ _ h6.2 (by simp; omega) (by simp; omega)]
        simp [Ps.trs]
    rw [e, run_row (by simp) (step_close h1 (by simp; omega))]
    simp [Ps.trs_ds]
theorem Ps.run : ∀ (ps : Ps) (d : Nat) (rest : List D) (nm : Str) (dss : List (List D)) (r : List Fr), ps.fn d → dss.length + ps.len < 1000000 → r.length + d < 900000 →
    stRun ((ps.rows nm sNext).map Rw.d ++ rest) ((nm, dss) :: r) = stRun rest ((nm, ps.trs.reverse ++ dss) :: r)
  | .one t, d, rest, nm, dss, r, h, h1, h2 => by
    simp only [Ps.fn] at h
    simp only [Ps.len] at h1
    simp only [Ps.rows, List.map_cons, List.cons_append]
    rw [run_row (by simp) (step_next (by omega)), Tr.run t d _ nm [] dss _ h.2 (by simp; omega) h2]
    simp [Ps.trs]
  | .cons t ps, d, rest, nm, dss, r, h, h1, h2 => by
    simp only [Ps.fn] at h
    simp only [Ps.len] at h1
    simp only [Ps.rows, List.map_cons, List.cons_append, List.map_append, List.append_assoc]
    rw [run_row (by simp) (step_next (by omega)), Tr.run t d _ nm [] dss _ h.1.2 (by simp; omega) h2, Ps.run ps d _ nm _ _ h.2 (by simp; omega) h2]
    simp [Ps.trs]
end
mutual
theorem Tr.rows_ok : ∀ (t : Tr) (d : Nat), t.fn d → ∀ r ∈ t.rows, RwOk r
  | .nil, d, _, r, h => by simp [Tr.rows] at h
  | .cons l t, d, o, r, h => by
    simp only [Tr.fn] at o
    simp only [Tr.rows, List.mem_append] at h
    exact h.elim (Lf.rows_ok l d o.1 r) (Tr.rows_ok t d o.2 r)
theorem Lf.rows_ok : ∀ (l : Lf) (d : Nat), l.fn d → ∀ r ∈ l.rows, RwOk r
  | .txt s, d, o, r, h => by
    simp only [Lf.fn] at o
    simp only [Lf.rows, List.mem_singleton] at h
    subst h
    exact ⟨by simp, o.1⟩
  | .lt nm ps, d, o, r, h => by
    simp only [Lf.fn] at o
    have gn := o.1.1
    simp only [Lf.rows, List.mem_append, List.mem_singleton] at h
    rcases h with h | rfl
    · exact Ps.rows_ok ps (d - 1) o.2.2.2 nm sOpen gn (by simp) r h
    · exact ⟨by simp, gn⟩
theorem Ps.rows_ok : ∀ (ps : Ps) (d : Nat), ps.fn d → ∀ (nm w : Str), good 100 0 (.str nm) = true → w ∈ [sLine, sOpen, sNext, sClose] → ∀ r ∈ ps.rows nm w, RwOk r
  | .one t, d, o, nm, w, gn, hw, r, h => by
    simp only [Ps.fn] at o
    simp only [Ps.rows, List.mem_cons] at h
    rcases h with rfl | h
    · exact ⟨hw, gn⟩
    · exact Tr.rows_ok t d o.2 r h
  | .cons t ps, d, o, nm, w, gn, hw, r, h => by
    simp only [Ps.fn] at o
    simp only [Ps.rows, List.mem_cons, List.mem_append] at h
    rcases h with rfl | h | h
    · exact ⟨hw, gn⟩
    · exact Tr.rows_ok t d o.1.2 r h
    · exact Ps.rows_ok ps d o.2 nm sNext gn (by simp) r h
end
theorem len_rs (rs : List Rw) : lenD [rsD rs] = some (.int (rs.length : Nat)) := by simp [rsD]
theorem cut_rs_to (rs : List Rw) (n : Nat) : DL.cutD (rsD rs) none (some (n : Int)) = some (rsD (rs.take n)) := by
  simp only [rsD, DL.cutD, cut_to, List.map_take]
theorem cut_rs_from (rs : List Rw) (n : Nat) : DL.cutD (rsD rs) (some (n : Int)) none = some (rsD (rs.drop n)) := by
  simp only [rsD, DL.cutD, cut_from, List.map_drop]
theorem rs_shaped {rs : List Rw} (h : ∀ r ∈ rs, RwOk r) (hl : rs.length ≤ 1000000) : SeqAt.shaped (rsD rs) = true := by
  refine good_shaped (L := 1000000) (n := 2) (good_tup.mpr ⟨by simpa using hl, fun x hx => ?_⟩) (by decide)
  obtain ⟨r, hr, rfl⟩ := List.mem_map.mp hx
  exact good_mono (by decide) (Nat.le_refl _) (h r hr).d_good
theorem rs_noB (rs : List Rw) : noB (rsD rs) = true := by
  simp only [rsD, noB]
  refine noBs_iff.mpr fun x hx => ?_
  obtain ⟨r, hr, rfl⟩ := List.mem_map.mp hx
  simp [Rw.d, noB, noBs]
mutual
theorem Tr.noB : ∀ t : Tr, B.noBs t.ds = true
  | .nil => by simp [Tr.ds, B.noBs]
  | .cons l t => by simp [Tr.ds, B.noBs, Lf.noB l, Tr.noB t]
theorem Lf.noB : ∀ l : Lf, B.noB l.d = true
  | .txt s => by simp [Lf.d, B.noB]
  | .lt nm ps => by simp [Lf.d, B.noB, B.noBs, Ps.noB ps]
theorem Ps.noB : ∀ ps : Ps, B.noBs ps.ds = true
  | .one t => by simp [Ps.ds, B.noBs, B.noB, Tr.noB t]
  | .cons t ps => by simp [Ps.ds, B.noBs, B.noB, Tr.noB t, Ps.noB ps]
end
theorem tr_shaped {t : Tr} {d : Nat} (h : t.ok d) (hd : d ≤ 20) (hl : t.len ≤ 1000) : SeqAt.shaped (.tuple t.ds) = true := by
  have l := Tr.len_ds t
  refine good_shaped (L := 1000) (n := 3 * d + 1) (good_tup.mpr ⟨by omega, fun x hx => ?_⟩) (by omega)
  exact good_mono (by decide) (Nat.le_refl _) (Tr.good_of t d h x hx).1
theorem rw_of {rs : List D} (h : ∀ r ∈ rs, RowIn r) : ∃ rw : List Rw, rs = rw.map Rw.d ∧ ∀ r ∈ rw, RwOk r := by
  induction rs with
  | nil => exact ⟨[], rfl, by simp⟩
  | cons x rs ih =>
    obtain ⟨rw', e, o⟩ := ih fun r hr => h r (List.mem_cons_of_mem _ hr)
    rcases h x List.mem_cons_self with ⟨t, ht, rfl⟩ | ⟨w, hw, t, ht, rfl⟩
    · refine ⟨(sLine, t) :: rw', by rw [e]; rfl, fun r hr => ?_⟩
      rcases List.mem_cons.mp hr with rfl | hr
      · exact ⟨by simp, (texts_good t (by simp [ht])).1⟩
      · exact o r hr
    · refine ⟨(w, t) :: rw', by rw [e]; rfl, fun r hr => ?_⟩
      rcases List.mem_cons.mp hr with rfl | hr
      · refine ⟨?_, (texts_good t (by simp [ht])).1⟩
        simp at hw ⊢
        exact .inr hw
      · exact o r hr
theorem closes_ok {st : List Str} (h : ∀ s ∈ st, good 100 0 (.str s) = true) : ∀ r ∈ closes st, RwOk r := fun r hr => by
  obtain ⟨s, hs, rfl⟩ := List.mem_map.mp hr
  exact ⟨by simp, h s (List.mem_reverse.mp hs)⟩
/-- the closing rows, as the law makes them -/
theorem lc_closes (st : List Str) (ρ : En) (i : Nat) (hi : i < ρ.length) : lcL (rgName i) rYes (rTup (rCons (rC (.str (Str.ofString "close"))) (rCons (rVar i) rNil))) ρ ((st.map PyData.str).reverse) = some ((closes st).map Rw.d) := by
  have := lc_map (rg := rgName i) (re := rTup (rCons (rC (.str (Str.ofString "close"))) (rCons (rVar i) rNil))) (ρ := ρ) (f := fun d => .tuple [.str sClose, d]) (ds := (st.map PyData.str).reverse) fun d hd => by
    refine ⟨_, rfl, ?_⟩
    have e : rVar i (ρ.set i (.val d)) = some (.ok d) := by
      unfold rVar
      rw [List.getElem?_set_self hi]
    simp [e]
    rfl
  rw [this]
  unfold closes
  rw [← List.map_reverse, List.map_map, List.map_map]
  rfl
theorem strs_nil {st : List Str} (h : ∀ s ∈ st, good 100 0 (.str s) = true) (hl : st.length ≤ 1000000) : eqD (.tuple (st.map PyData.str)) (.tuple []) = some (.bool (decide (st = []))) := by
  rw [eqD_of (good_shaped (strs_shaped h hl).2 (by decide)) (by decide +kernel)]
  cases st <;> simp [PyData.eqv, PyData.eqvAll]
theorem neD_bool (a b : Bool) : neD (.bool a) (.bool b) = some (.bool (!decide (a = b))) := by cases a <;> cases b <;> rfl
theorem neD_nil : neD (.tuple []) (.tuple []) = some (.bool false) := rfl
theorem let_mono {S T : D → Bool} (h : ∀ d, S d = true → T d = true) {x : D} (q : letB S x = true) : letB T x = true := by
  unfold letB at q ⊢
  split at q
  · simp only [Bool.and_eq_true] at q ⊢
    exact ⟨q.1, q.2.1, List.all_eq_true.mpr fun y hy => h y (List.all_eq_true.mp q.2.2 y hy)⟩
  · cases q
theorem treeB_mono : ∀ (n m : Nat) (d : D), n ≤ m → treeB n d = true → treeB m d = true
  | 0, m, d, _, h => by simp [treeB] at h
  | n + 1, 0, d, l, h => by omega
  | n + 1, m + 1, d, l, h => by
    cases d with
    | tuple xs =>
      simp only [treeB] at h ⊢
      refine List.all_eq_true.mpr fun x hx => ?_
      have q := List.all_eq_true.mp h x hx
      rw [Bool.or_eq_true] at q ⊢
      rcases q with q | q
      · exact .inl q
      · exact .inr (let_mono (fun y hy => treeB_mono n m y (by omega) hy) q)
    | _ => simp [treeB] at h
def Ps.snoc : Ps → Tr → Ps
  | .one u, t => .cons u (.one t)
  | .cons u ps, t => .cons u (ps.snoc t)
mutual
def Tr.swap : Tr → Tr
  | .nil => .nil
  | .cons l t => .cons l.swap t.swap
def Lf.swap : Lf → Lf
  | .txt s => .txt s
  | .lt nm ps => .lt nm ps.swap
def Ps.swap : Ps → Ps
  | .one t => .one t.swap
  | .cons t ps => ps.swap.snoc t.swap
end
def Ps.tl : Ps → List Tr
  | .one t => [t]
  | .cons t ps => t :: ps.tl
theorem Ps.tl_ds : ∀ ps : Ps, ps.ds = ps.tl.map fun t => .tuple t.ds
  | .one t => by simp [Ps.ds, Ps.tl]
  | .cons t ps => by simp [Ps.ds, Ps.tl, Ps.tl_ds ps]
theorem Ps.tl_len : ∀ ps : Ps, ps.tl.length = ps.len
  | .one t => by simp [Ps.tl, Ps.len]
  | .cons t ps => by simp [Ps.tl, Ps.len, Ps.tl_len ps]
theorem Ps.snoc_tl : ∀ (ps : Ps) (t : Tr), (ps.snoc t).tl = ps.tl ++ [t]
  | .one u, t => by simp [Ps.snoc, Ps.tl]
  | .cons u ps, t => by simp [Ps.snoc, Ps.tl, Ps.snoc_tl ps t]
theorem Ps.swap_tl : ∀ ps : Ps, ps.swap.tl = (ps.tl.map Tr.swap).reverse
  | .one t => by simp [Ps.swap, Ps.tl]
  | .cons t ps => by simp [Ps.swap, Ps.tl, Ps.snoc_tl, Ps.swap_tl ps]
theorem Tr.swap_len : ∀ t : Tr, t.swap.len = t.len
  | .nil => by simp [Tr.swap, Tr.len]
  | .cons l t => by simp [Tr.swap, Tr.len, Tr.swap_len t]
theorem Ps.swap_len (ps : Ps) : ps.swap.len = ps.len := by rw [← Ps.tl_len, Ps.swap_tl]; simp [Ps.tl_len]
theorem Ps.fn_iff {d : Nat} : ∀ {ps : Ps}, ps.fn d ↔ ∀ t ∈ ps.tl, t.len ≤ 6 ∧ t.fn d
  | .one t => by simp [Ps.fn, Ps.tl]
  | .cons t ps => by simp [Ps.fn, Ps.tl, Ps.fn_iff (ps := ps)]
mutual
theorem Tr.swap_fn : ∀ (t : Tr) (d : Nat), t.fn d → t.swap.fn d
  | .nil, d, _ => by simp [Tr.swap, Tr.fn]
  | .cons l t, d, h => by simp only [Tr.fn] at h; simp only [Tr.swap, Tr.fn]; exact ⟨Lf.swap_fn l d h.1, Tr.swap_fn t d h.2⟩
theorem Lf.swap_fn : ∀ (l : Lf) (d : Nat), l.fn d → l.swap.fn d
  | .txt s, d, h => by simpa [Lf.swap, Lf.fn] using h
  | .lt nm ps, d, h => by
    simp only [Lf.fn] at h
    simp only [Lf.swap, Lf.fn]
    exact ⟨h.1, by rw [Ps.swap_len]; exact h.2.1, h.2.2.1, Ps.swap_fn ps _ h.2.2.2⟩
theorem Ps.swap_fn : ∀ (ps : Ps) (d : Nat), ps.fn d → ps.swap.fn d
  | .one t, d, h => by simp only [Ps.fn] at h; simp only [Ps.swap, Ps.fn]; exact ⟨by rw [Tr.swap_len]; exact h.1, Tr.swap_fn t d h.2⟩
  | .cons t ps, d, h => by
    simp only [Ps.fn] at h
    simp only [Ps.swap]
    rw [Ps.fn_iff, Ps.snoc_tl]
    intro u hu
    rcases List.mem_append.mp hu with hu | hu
    · exact Ps.fn_iff.mp (Ps.swap_fn ps d h.2) u hu
    · rw [List.mem_singleton.mp hu]
      exact ⟨by rw [Tr.swap_len]; exact h.1.1, Tr.swap_fn t d h.1.2⟩
end
theorem Ps.rows_perm : ∀ (ps : Ps) (nm w : Str), (ps.rows nm w).Perm ((w, nm) :: (List.replicate (ps.len - 1) (sNext, nm) ++ (ps.tl.map Tr.rows).flatten))
  | .one t, nm, w => by simp [Ps.rows, Ps.len, Ps.tl]
  | .cons t ps, nm, w => by
    have ih := Ps.rows_perm ps nm sNext
    have hp : 0 < ps.len := by cases ps <;> simp [Ps.len]
    have e : ps.len + 1 - 1 = ps.len - 1 + 1 := by omega
    simp only [Ps.rows, Ps.len, Ps.tl, List.map_cons, List.flatten_cons, e, List.replicate_succ, List.cons_append]
    refine List.Perm.cons _ ?_
    refine (List.Perm.append_left _ ih).trans ?_
    refine List.perm_middle.trans (List.Perm.cons _ ?_)
    rw [← List.append_assoc, ← List.append_assoc]
    exact List.Perm.append_right _ List.perm_append_comm
mutual
theorem Tr.swap_rows : ∀ t : Tr, t.swap.rows.Perm t.rows
  | .nil => by simp [Tr.swap, Tr.rows]
  | .cons l t => by simp only [Tr.swap, Tr.rows]; exact List.Perm.append (Lf.swap_rows l) (Tr.swap_rows t)
theorem Lf.swap_rows : ∀ l : Lf, l.swap.rows.Perm l.rows
  | .txt s => by simp [Lf.swap]
  | .lt nm ps => by
    simp only [Lf.swap, Lf.rows]
    refine List.Perm.append_right _ ?_
    refine (Ps.rows_perm ps.swap nm sOpen).trans (List.Perm.trans ?_ (Ps.rows_perm ps nm sOpen).symm)
    rw [Ps.swap_len]
    exact List.Perm.cons _ (List.Perm.append_left _ (Ps.swap_flat ps))
theorem Ps.swap_flat : ∀ ps : Ps, ((ps.swap.tl.map Tr.rows).flatten).Perm (ps.tl.map Tr.rows).flatten
  | .one t => by simpa [Ps.swap, Ps.tl] using Tr.swap_rows t
  | .cons t ps => by
    simp only [Ps.swap, Ps.snoc_tl, Ps.tl, List.map_append, List.map_cons, List.map_nil, List.flatten_append, List.flatten_cons, List.flatten_nil, List.append_nil]
    exact List.perm_append_comm.trans (List.Perm.append (Tr.swap_rows t) (Ps.swap_flat ps))
end
theorem lc_mapT {α : Type} {rg : RG} {re : RE} {ρ : En} {f h : α → D} : ∀ {ts : List α}, (∀ a ∈ ts, ∃ ρ1, rg (f a) ρ = some ρ1 ∧ re ρ1 = some (.ok (h a))) → lcL rg rYes re ρ (ts.map f) = some (ts.map h)
  | [], _ => rfl
  | a :: ts, q => by
    obtain ⟨ρ1, e1, e2⟩ := q a List.mem_cons_self
    have e3 := lc_mapT (ts := ts) fun b hb => q b (List.mem_cons_of_mem _ hb)
    simp only [List.map_cons, lcL, e1, rYes_ap, e2, e3]
theorem rev_tup (xs : List D) : revD (.tuple xs) = some (.tuple xs.reverse) := rfl
theorem le_total : PySem.W.TotalLe leDt := PySem.W.sortLe_total (listOrd itemOrd) false PySem.W.keyToks
theorem sort_perm {l m : List D} (h : l.Perm m) (inj : ∀ a ∈ l, ∀ b ∈ m, PySem.W.keyToks a = PySem.W.keyToks b → a = b) : l.mergeSort leDt = m.mergeSort leDt := by
  refine List.Perm.eq_of_pairwise (le := fun a b => leDt a b = true) (fun a b ha hb h1 h2 => ?_) (PySem.W.sort_pairwise le_total l) (PySem.W.sort_pairwise le_total m) ((List.mergeSort_perm l leDt).trans (h.trans (List.mergeSort_perm m leDt).symm))
  have ma := (List.mergeSort_perm l leDt).mem_iff.mp ha
  have mb := (List.mergeSort_perm m leDt).mem_iff.mp hb
  unfold leDt PySem.W.dataLt at h1 h2
  simp only [Bool.not_eq_true'] at h1 h2
  exact inj a ma b mb (lex_total (O := itemOrd) _ _ h2 h1)
theorem row_inj (r q : Rw) (h : PySem.W.keyToks r.d = PySem.W.keyToks q.d) : r.d = q.d := by
  obtain ⟨w, x⟩ := r
  obtain ⟨w', x'⟩ := q
  simp only [Rw.d, PySem.W.keyToks, PySem.W.keyToksAll, List.cons_append, List.nil_append, List.cons.injEq, Sum.inr.injEq, true_and, and_true] at h
  have e1 := PySem.W.str_of_cps h.1
  have e2 := PySem.W.str_of_cps h.2
  rw [e1, e2]
theorem sort_rows {a b : List Rw} (h : a.Perm b) : (a.map Rw.d).mergeSort leDt = (b.map Rw.d).mergeSort leDt := by
  refine sort_perm (h.map Rw.d) fun x hx y hy e => ?_
  obtain ⟨r, _, rfl⟩ := List.mem_map.mp hx
  obtain ⟨q, _, rfl⟩ := List.mem_map.mp hy
  exact row_inj r q e
theorem rows_sortOk {rs : List Rw} (h : ∀ r ∈ rs, RwOk r) : sortOk (rs.map Rw.d) = true := by
  simp only [sortOk, Bool.and_eq_true, Bool.or_eq_true, List.all_eq_true, decide_eq_true_eq]
  refine ⟨⟨⟨fun x hx y hy => ?_, .inl (.inl fun x hx => ?_)⟩, fun x hx => ?_⟩, canLayAll_of fun x hx => ?_⟩
  · obtain ⟨r, _, rfl⟩ := List.mem_map.mp hx
    obtain ⟨q, _, rfl⟩ := List.mem_map.mp hy
    simp [Rw.d, PySem.W.alike, PySem.W.alikeAll]
  · obtain ⟨r, _, rfl⟩ := List.mem_map.mp hx
    rfl
  · obtain ⟨r, hr, rfl⟩ := List.mem_map.mp hx
    have := (good_lay (h r hr).d_good).2
    omega
  · obtain ⟨r, hr, rfl⟩ := List.mem_map.mp hx
    exact (good_lay (h r hr).d_good).1
theorem sorted_rs {rs : List Rw} (h : ∀ r ∈ rs, RwOk r) : sortedD [rsD rs] = some (.list ((rs.map Rw.d).mergeSort leDt)) := by
  simp only [rsD, sortedD, rows_sortOk h, if_true]
theorem sorted_shaped {rs : List Rw} (h : ∀ r ∈ rs, RwOk r) (hl : rs.length ≤ 1000000) : SeqAt.shaped (.list ((rs.map Rw.d).mergeSort leDt)) = true := by
  have pm := List.mergeSort_perm (rs.map Rw.d) leDt
  refine good_shaped (L := 1000000) (n := 2) (good_lst.mpr ⟨by rw [pm.length_eq]; simpa using hl, fun x hx => ?_⟩) (by decide)
  obtain ⟨r, hr, rfl⟩ := List.mem_map.mp (pm.mem_iff.mp hx)
  exact good_mono (by decide) (Nat.le_refl _) (h r hr).d_good
mutual
theorem Tr.good_fn : ∀ (t : Tr) (d : Nat), t.fn d → ∀ x ∈ t.ds, good 100 (3 * d) x = true
  | .nil, d, _, x, h => by simp [Tr.ds] at h
  | .cons l t, d, o, x, h => by
    simp only [Tr.fn] at o
    simp only [Tr.ds, List.mem_cons] at h
    rcases h with rfl | h
    · exact Lf.good_fn l d o.1
    · exact Tr.good_fn t d o.2 x h
theorem Lf.good_fn : ∀ (l : Lf) (d : Nat), l.fn d → good 100 (3 * d) l.d = true
  | .txt s, d, o => by
    simp only [Lf.fn] at o
    simp only [Lf.d]
    exact good_flat rfl o.1
  | .lt nm ps, d, o => by
    simp only [Lf.fn] at o
    obtain ⟨o1, o2, o3, o4⟩ := o
    obtain ⟨d, rfl⟩ : ∃ k, d = k + 1 := ⟨d - 1, by omega⟩
    have pq := Ps.good_fn ps d o4
    have lp := Ps.len_ds ps
    simp only [Lf.d]
    have e : 3 * (d + 1) = 3 * d + 1 + 1 + 1 := by omega
    rw [e]
    refine good_tup.mpr ⟨by simp, fun x hx => ?_⟩
    simp at hx
    rcases hx with rfl | rfl
    · exact good_flat rfl o1.1
    · exact good_tup.mpr ⟨by omega, fun x hx => pq x hx⟩
theorem Ps.good_fn : ∀ (ps : Ps) (d : Nat), ps.fn d → ∀ x ∈ ps.ds, good 100 (3 * d + 1) x = true
  | .one t, d, o, x, h => by
    simp only [Ps.fn] at o
    simp only [Ps.ds, List.mem_singleton] at h
    subst h
    have q := Tr.good_fn t d o.2
    have l := Tr.len_ds t
    exact good_tup.mpr ⟨by omega, q⟩
  | .cons t ps, d, o, x, h => by
    simp only [Ps.fn] at o
    simp only [Ps.ds, List.mem_cons] at h
    rcases h with rfl | h
    · have q := Tr.good_fn t d o.1.2
      have l := Tr.len_ds t
      exact good_tup.mpr ⟨by omega, q⟩
    · exact Ps.good_fn ps d o.2 x h
end
theorem fn_shaped {t : Tr} {d : Nat} (h : t.fn d) (hd : d ≤ 20) (hl : t.len ≤ 100) : SeqAt.shaped (.tuple t.ds) = true := by
  have l := Tr.len_ds t
  exact good_shaped (L := 100) (n := 3 * d + 1) (good_tup.mpr ⟨by omega, Tr.good_fn t d h⟩) (by omega)
def Tr.take : Nat → Tr → Tr
  | 0, _ => .nil
  | _ + 1, .nil => .nil
  | n + 1, .cons l t => .cons l (t.take n)
def Tr.drop : Nat → Tr → Tr
  | 0, t => t
  | _ + 1, .nil => .nil
  | n + 1, .cons _ t => t.drop n
theorem Tr.take_ds : ∀ (n : Nat) (t : Tr), (t.take n).ds = t.ds.take n
  | 0, _ => by simp [Tr.take, Tr.ds]
  | _ + 1, .nil => by simp [Tr.take, Tr.ds]
  | n + 1, .cons l t => by simp [Tr.take, Tr.ds, Tr.take_ds n t]
theorem Tr.drop_ds : ∀ (n : Nat) (t : Tr), (t.drop n).ds = t.ds.drop n
  | 0, _ => by simp [Tr.drop]
  | _ + 1, .nil => by simp [Tr.drop, Tr.ds]
  | n + 1, .cons l t => by simp [Tr.drop, Tr.ds, Tr.drop_ds n t]
theorem Tr.parted : ∀ (n : Nat) (t : Tr), (t.take n).app (t.drop n) = t
  | 0, t => by simp [Tr.take, Tr.drop, Tr.app]
  | _ + 1, .nil => by simp [Tr.take, Tr.drop, Tr.app]
  | n + 1, .cons l t => by simp [Tr.take, Tr.drop, Tr.app, Tr.parted n t]
theorem Tr.take_fn {d : Nat} : ∀ (n : Nat) (t : Tr), t.fn d → (t.take n).fn d
  | 0, _, _ => by simp [Tr.take, Tr.fn]
  | _ + 1, .nil, _ => by simp [Tr.take, Tr.fn]
  | n + 1, .cons l t, h => by simp only [Tr.fn] at h; simp only [Tr.take, Tr.fn]; exact ⟨h.1, Tr.take_fn n t h.2⟩
theorem Tr.drop_fn {d : Nat} : ∀ (n : Nat) (t : Tr), t.fn d → (t.drop n).fn d
  | 0, _, h => by simpa [Tr.drop] using h
  | _ + 1, .nil, _ => by simp [Tr.drop, Tr.fn]
  | n + 1, .cons l t, h => by simp only [Tr.fn] at h; simp only [Tr.drop]; exact Tr.drop_fn n t h.2
mutual
def Tr.gd (d : Nat) : Tr → Prop
  | .nil => True
  | .cons l t => l.gd d ∧ t.gd d
def Lf.gd (d : Nat) : Lf → Prop
  | .txt s => good 100 0 (.str s) = true
  | .lt nm ps => good 100 0 (.str nm) = true ∧ 0 < d ∧ ps.gd (d - 1)
def Ps.gd (d : Nat) : Ps → Prop
  | .one t => t.gd d
  | .cons t ps => t.gd d ∧ ps.gd d
end
theorem Ps.len_rows : ∀ (ps : Ps) (nm w : Str), ps.len ≤ (ps.rows nm w).length
  | .one t, nm, w => by simp [Ps.len, Ps.rows]
  | .cons t ps, nm, w => by
    have := Ps.len_rows ps nm sNext
    simp [Ps.len, Ps.rows]
    omega
mutual
theorem Tr.rung : ∀ (t : Tr) (d : Nat) (rest : List D) (n : Str) (ds : List D) (dss : List (List D)) (r : List Fr), t.gd d → ds.length + t.rows.length ≤ 900000 → r.length + d < 900000 →
    stRun (t.rows.map Rw.d ++ rest) ((n, ds :: dss) :: r) = stRun rest ((n, (ds ++ t.ds) :: dss) :: r)
  | .nil, d, rest, n, ds, dss, r, _, _, _ => by simp [Tr.rows, Tr.ds]
  | .cons l t, d, rest, n, ds, dss, r, h, h1, h2 => by
    simp only [Tr.gd] at h
    simp only [Tr.rows, List.length_append] at h1
    have l1 : 1 ≤ l.rows.length := by cases l <;> simp [Lf.rows]
    simp only [Tr.rows, List.map_append, List.append_assoc, Tr.ds]
    rw [Lf.rung l d _ n ds dss r h.1 (by omega) h2, Tr.rung t d _ n _ dss r h.2 (by simp; omega) h2]
    simp
theorem Lf.rung : ∀ (l : Lf) (d : Nat) (rest : List D) (n : Str) (ds : List D) (dss : List (List D)) (r : List Fr), l.gd d → ds.length + l.rows.length ≤ 900000 → r.length + d < 900000 →
    stRun (l.rows.map Rw.d ++ rest) ((n, ds :: dss) :: r) = stRun rest ((n, (ds ++ [l.d]) :: dss) :: r)
  | .txt s, d, rest, n, ds, dss, r, _, h1, _ => by
    simp only [Lf.rows, List.length_singleton] at h1
    simp only [Lf.rows, List.map_cons, List.map_nil, List.cons_append, List.nil_append, Lf.d]
    exact run_row (by simp) (step_line (by omega))
  | .lt nm ps, d, rest, n, ds, dss, r, h, h1, h2 => by
    simp only [Lf.gd] at h
    obtain ⟨_, h5, h6⟩ := h
    have lp := Ps.trs_len ps
    simp only [Lf.rows, List.length_append, List.length_singleton] at h1
    have hpl : ps.len ≤ (ps.rows nm sOpen).length := Ps.len_rows ps nm sOpen
    simp only [Lf.rows, List.map_append, List.map_cons, List.map_nil, List.append_assoc, List.cons_append, List.nil_append, Lf.d]
    have e : stRun ((ps.rows nm sOpen).map Rw.d ++ (Rw.d (sClose, nm) :: rest)) ((n, ds :: dss) :: r) = stRun (Rw.d (sClose, nm) :: rest) ((nm, ps.trs.reverse) :: (n, ds :: dss) :: r) := by
      cases ps with
      | one t =>
        simp only [Ps.gd] at h6
        simp only [Ps.rows, List.length_cons] at h1
        simp only [Ps.rows, List.map_cons, List.cons_append]
        rw [run_row (by simp) (step_open (by simp; omega)), Tr.rung t (d - 1) _ nm [] [] _ h6 (by simp; omega) (by simp; omega)]
        simp [Ps.trs]
      | cons t ps =>
        simp only [Ps.gd] at h6
        simp only [Ps.rows, List.length_cons, List.length_append] at h1
        simp only [Ps.rows, List.map_cons, List.cons_append, List.map_append, List.append_assoc]
        rw [run_row (by simp) (step_open (by simp; omega)), Tr.rung t (d - 1) _ nm [] [] _ h6.1 (by simp; omega) (by simp; omega), Ps.rung ps (d - 1) _ nm _ _ h6.2 (by simp; omega) (by simp; omega)]
        simp [Ps.trs]
    rw [e, run_row (by simp) (step_close (by omega) (by simp; omega))]
    simp [Ps.trs_ds]
theorem Ps.rung : ∀ (ps : Ps) (d : Nat) (rest : List D) (nm : Str) (dss : List (List D)) (r : List Fr), ps.gd d → dss.length + (ps.rows nm sNext).length ≤ 900000 → r.length + d < 900000 →
    stRun ((ps.rows nm sNext).map Rw.d ++ rest) ((nm, dss) :: r) = stRun rest ((nm, ps.trs.reverse ++ dss) :: r)
  | .one t, d, rest, nm, dss, r, h, h1, h2 => by
    simp only [Ps.gd] at h
    simp only [Ps.rows, List.length_cons] at h1
    simp only [Ps.rows, List.map_cons, List.cons_append]
    rw [run_row (by simp) (step_next (by omega)), Tr.rung t d _ nm [] dss _ h (by simp; omega) h2]
    simp [Ps.trs]
  | .cons t ps, d, rest, nm, dss, r, h, h1, h2 => by
    simp only [Ps.gd] at h
    simp only [Ps.rows, List.length_cons, List.length_append] at h1
    simp only [Ps.rows, List.map_cons, List.cons_append, List.map_append, List.append_assoc]
    rw [run_row (by simp) (step_next (by omega)), Tr.rung t d _ nm [] dss _ h.1 (by simp; omega) h2, Ps.rung ps d _ nm _ _ h.2 (by simp; omega) h2]
    simp [Ps.trs]
end
theorem Tr.of_rows : ∀ ls : List Lf, (Tr.of ls).rows = (ls.map Lf.rows).flatten
  | [] => by simp [Tr.of, Tr.rows]
  | l :: ls => by simp [Tr.of, Tr.rows, Tr.of_rows ls]
theorem Tr.of_gd {d : Nat} : ∀ {ls : List Lf}, (∀ l ∈ ls, l.gd d) → (Tr.of ls).gd d
  | [], _ => by simp [Tr.of, Tr.gd]
  | l :: ls, h => by
    simp only [Tr.of, Tr.gd]
    exact ⟨h l List.mem_cons_self, Tr.of_gd fun x hx => h x (List.mem_cons_of_mem _ hx)⟩
mutual
theorem Tr.gd_mono {d e : Nat} (h : d ≤ e) : ∀ t : Tr, t.gd d → t.gd e
  | .nil, _ => by simp [Tr.gd]
  | .cons l t, q => by simp only [Tr.gd] at q ⊢; exact ⟨Lf.gd_mono h l q.1, Tr.gd_mono h t q.2⟩
theorem Lf.gd_mono {d e : Nat} (h : d ≤ e) : ∀ l : Lf, l.gd d → l.gd e
  | .txt s, q => by simp only [Lf.gd] at q ⊢; exact q
  | .lt nm ps, q => by simp only [Lf.gd] at q ⊢; exact ⟨q.1, by omega, Ps.gd_mono (by omega) ps q.2.2⟩
theorem Ps.gd_mono {d e : Nat} (h : d ≤ e) : ∀ ps : Ps, ps.gd d → ps.gd e
  | .one t, q => by simp only [Ps.gd] at q ⊢; exact Tr.gd_mono h t q
  | .cons t ps, q => by simp only [Ps.gd] at q ⊢; exact ⟨Tr.gd_mono h t q.1, Ps.gd_mono h ps q.2⟩
end
mutual
theorem Tr.gd_fn : ∀ (t : Tr) (d : Nat), t.fn d → t.gd d
  | .nil, d, _ => by simp [Tr.gd]
  | .cons l t, d, h => by simp only [Tr.fn] at h; simp only [Tr.gd]; exact ⟨Lf.gd_fn l d h.1, Tr.gd_fn t d h.2⟩
theorem Lf.gd_fn : ∀ (l : Lf) (d : Nat), l.fn d → l.gd d
  | .txt s, d, h => by simp only [Lf.fn] at h; simp only [Lf.gd]; exact h.1
  | .lt nm ps, d, h => by simp only [Lf.fn] at h; simp only [Lf.gd]; exact ⟨h.1.1, h.2.2.1, Ps.gd_fn ps (d - 1) h.2.2.2⟩
theorem Ps.gd_fn : ∀ (ps : Ps) (d : Nat), ps.fn d → ps.gd d
  | .one t, d, h => by simp only [Ps.fn] at h; simp only [Ps.gd]; exact Tr.gd_fn t d h.2
  | .cons t ps, d, h => by simp only [Ps.fn] at h; simp only [Ps.gd]; exact ⟨Tr.gd_fn t d h.1.2, Ps.gd_fn ps d h.2⟩
end
/-- parts: those behind, and the last one -/
def Ps.mk (ts : List Tr) (t : Tr) : Ps := match ts with
  | [] => .one t
  | u :: us => .cons u (Ps.mk us t)
theorem Ps.mk_gd {d : Nat} : ∀ {ts : List Tr} {t : Tr}, (∀ u ∈ ts, u.gd d) → t.gd d → (Ps.mk ts t).gd d
  | [], t, _, h => by simp only [Ps.mk, Ps.gd]; exact h
  | u :: us, t, h, ht => by simp only [Ps.mk, Ps.gd]; exact ⟨h u List.mem_cons_self, Ps.mk_gd (fun x hx => h x (List.mem_cons_of_mem _ hx)) ht⟩
structure Frm where
  nm : Str
  done : List Tr
  cur : List Lf
def segR (nm : Str) : Str → List Tr → List Lf → List Rw
  | w, [], cur => (w, nm) :: (cur.map Lf.rows).flatten
  | w, t :: ts, cur => (w, nm) :: (t.rows ++ segR nm sNext ts cur)
def Frm.rows (f : Frm) : List Rw := segR f.nm sOpen f.done f.cur
def frsR : List Frm → List Rw
  | [] => []
  | f :: fs => frsR fs ++ f.rows
theorem seg_leaf (nm : Str) (l : Lf) : ∀ (w : Str) (ts : List Tr) (cur : List Lf), segR nm w ts (cur ++ [l]) = segR nm w ts cur ++ l.rows
  | w, [], cur => by simp [segR]
  | w, t :: ts, cur => by simp [segR, seg_leaf nm l sNext ts cur]
theorem seg_next (nm : Str) : ∀ (w : Str) (ts : List Tr) (cur : List Lf), segR nm w (ts ++ [Tr.of cur]) [] = segR nm w ts cur ++ [(sNext, nm)]
  | w, [], cur => by simp [segR, Tr.of_rows]
  | w, t :: ts, cur => by simp [segR, seg_next nm sNext ts cur]
theorem seg_parts (nm : Str) : ∀ (w : Str) (ts : List Tr) (cur : List Lf), (Ps.mk ts (Tr.of cur)).rows nm w = segR nm w ts cur
  | w, [], cur => by simp [segR, Ps.mk, Ps.rows, Tr.of_rows]
  | w, t :: ts, cur => by simp [segR, Ps.mk, Ps.rows, seg_parts nm sNext ts cur]
/-- opens less closes -/
def bal : List Rw → Int
  | [] => 0
  | r :: rs => (if r.1 = sOpen then 1 else if r.1 = sClose then -1 else 0) + bal rs
theorem bal_app (a b : List Rw) : bal (a ++ b) = bal a + bal b := by
  induction a with
  | nil => simp [bal]
  | cons r a ih => simp only [List.cons_append, bal, ih]; omega
def Low (n : Int) (rs : List Rw) : Prop := ∀ k, bal (rs.take k) ≤ n
def FrsOk (n : Nat) : List Frm → Prop
  | [] => True
  | f :: fs => good 100 0 (.str f.nm) = true ∧ (∀ t ∈ f.done, t.gd (n - (fs.length + 1))) ∧ (∀ l ∈ f.cur, l.gd (n - (fs.length + 1))) ∧ FrsOk n fs
theorem parse (n : Nat) : ∀ (rs : List Rw) (base : List Lf) (fs : List Frm) (k : Nat), (∀ r ∈ rs, RwOk r) → (∀ l ∈ base, l.gd n) → FrsOk n fs → fs.length ≤ n → Low (n - fs.length) rs → scan rs (fs.reverse.map Frm.nm) k = ([], none) →
    ∃ t : Tr, t.gd n ∧ t.rows = (base.map Lf.rows).flatten ++ frsR fs ++ rs
  | [], base, fs, k, _, hb, hf, hl, _, hs => by
    simp only [scan, Prod.mk.injEq, and_true] at hs
    have e : fs = [] := by simpa using hs
    subst e
    exact ⟨Tr.of base, Tr.of_gd hb, by simp [Tr.of_rows, frsR]⟩
  | (w, x) :: rs, base, fs, k, hr, hb, hf, hl, hlow, hs => by
    have hw := (hr _ List.mem_cons_self).1
    have hx := (hr _ List.mem_cons_self).2
    have hr' : ∀ r ∈ rs, RwOk r := fun r h => hr r (List.mem_cons_of_mem _ h)
    have low1 : ∀ (c : Int), (if w = sOpen then (1 : Int) else if w = sClose then -1 else 0) = c → Low (n - fs.length - c) rs := fun c hc j => by
      have := hlow (j + 1)
      simp only [List.take_succ_cons, bal, hc] at this
      omega
    simp only [List.mem_cons, List.not_mem_nil, or_false] at hw
    by_cases wo : w = sOpen
    · subst wo
      simp only [scan, if_true] at hs
      have l2 := low1 1 (by simp)
      have l3 : (1 : Int) ≤ n - fs.length := by
        have := hlow 1
        simp [bal] at this
        omega
      obtain ⟨t, h1, h2⟩ := parse n rs base (⟨x, [], []⟩ :: fs) (k + 1) hr' hb ⟨hx, fun t h => by simp at h, fun t h => by simp at h, hf⟩ (by simp; omega) (by
        intro j
        have := l2 j
        simp only [List.length_cons]
        omega) (by simpa using hs)
      exact ⟨t, h1, by rw [h2]; simp [frsR, Frm.rows, segR]⟩
    · simp only [scan, if_neg wo] at hs
      by_cases wl : w = sLine
      · subst wl
        simp only [if_true] at hs
        have l2 := low1 0 (by simp [w_lo, show sLine ≠ sClose from fun z => w_cl z.symm])
        cases fs with
        | nil =>
          obtain ⟨t, h1, h2⟩ := parse n rs (base ++ [.txt x]) [] (k + 1) hr' (fun l h => by
            rcases List.mem_append.mp h with h | h
            · exact hb l h
            · rw [List.mem_singleton.mp h]; simp only [Lf.gd]; exact hx) trivial (by simp) (by simpa using l2) hs
          exact ⟨t, h1, by rw [h2]; simp [frsR, Lf.rows]⟩
        | cons f fs =>
          obtain ⟨f1, f2, f3, f4⟩ := hf
          obtain ⟨t, h1, h2⟩ := parse n rs base (⟨f.nm, f.done, f.cur ++ [.txt x]⟩ :: fs) (k + 1) hr' hb ⟨f1, f2, fun l h => by
            rcases List.mem_append.mp h with h | h
            · exact f3 l h
            · rw [List.mem_singleton.mp h]; simp only [Lf.gd]; exact hx, f4⟩ hl (by simpa using l2) (by simpa using hs)
          exact ⟨t, h1, by rw [h2]; simp [frsR, Frm.rows, seg_leaf, Lf.rows]⟩
      · rw [if_neg wl] at hs
        by_cases hg : (fs.reverse.map Frm.nm).getLast? = some x
        · rw [if_pos hg] at hs
          cases fs with
          | nil => simp at hg
          | cons f fs =>
            have hxn : f.nm = x := by simpa using hg
            obtain ⟨f1, f2, f3, f4⟩ := hf
            by_cases wc : w = sClose
            · subst wc
              rw [if_pos rfl] at hs
              have l2 := low1 (-1) (by simp [w_co])
              have hd : (List.map Frm.nm (f :: fs).reverse).dropLast = List.map Frm.nm fs.reverse := by simp
              rw [hd] at hs
              have gl : (Lf.lt f.nm (Ps.mk f.done (Tr.of f.cur))).gd (n - fs.length) := by
                simp only [List.length_cons] at hl
                simp only [Lf.gd]
                refine ⟨f1, by omega, ?_⟩
                have e : n - fs.length - 1 = n - (fs.length + 1) := by omega
                rw [e]
                exact Ps.mk_gd f2 (Tr.of_gd f3)
              have hrow : (Lf.lt f.nm (Ps.mk f.done (Tr.of f.cur))).rows = f.rows ++ [(sClose, f.nm)] := by simp [Lf.rows, Frm.rows, seg_parts]
              simp only [List.length_cons] at hl
              have l3 : Low (n - fs.length) rs := fun j => by
                have := l2 j
                simp only [List.length_cons] at this
                omega
              cases fs with
              | nil =>
                obtain ⟨t, h1, h2⟩ := parse n rs (base ++ [.lt f.nm (Ps.mk f.done (Tr.of f.cur))]) [] (k + 1) hr' (fun l h => by
                  rcases List.mem_append.mp h with h | h
                  · exact hb l h
                  · rw [List.mem_singleton.mp h]; simpa using gl) trivial (by simp) (by simpa using l3) hs
                exact ⟨t, h1, by rw [h2, List.map_append, List.flatten_append]; simp only [List.map_cons, List.map_nil, List.flatten_cons, List.flatten_nil, hrow]; simp [frsR, hxn]⟩
              | cons g fs =>
                obtain ⟨g1, g2, g3, g4⟩ := f4
                obtain ⟨t, h1, h2⟩ := parse n rs base (⟨g.nm, g.done, g.cur ++ [.lt f.nm (Ps.mk f.done (Tr.of f.cur))]⟩ :: fs) (k + 1) hr' hb ⟨g1, g2, fun l h => by
                  rcases List.mem_append.mp h with h | h
                  · exact g3 l h
                  · rw [List.mem_singleton.mp h]; exact gl, g4⟩ (by simp at hl ⊢; omega) l3 (by simpa using hs)
                exact ⟨t, h1, by rw [h2]; simp only [frsR, Frm.rows, seg_leaf]; rw [hrow]; simp [Frm.rows, hxn]⟩
            · rw [if_neg wc] at hs
              have wn : w = sNext := by
                rcases hw with h | h | h | h
                · exact absurd h wl
                · exact absurd h wo
                · exact h
                · exact absurd h wc
              subst wn
              have l2 := low1 0 (by simp [w_no, w_nc])
              obtain ⟨t, h1, h2⟩ := parse n rs base (⟨f.nm, f.done ++ [Tr.of f.cur], []⟩ :: fs) (k + 1) hr' hb ⟨f1, fun t h => by
                rcases List.mem_append.mp h with h | h
                · exact f2 t h
                · rw [List.mem_singleton.mp h]; exact Tr.of_gd f3, fun t h => by simp at h, f4⟩ hl (by simpa using l2) (by simpa using hs)
              exact ⟨t, h1, by rw [h2]; simp [frsR, Frm.rows, seg_next, hxn]⟩
        · rw [if_neg hg] at hs
          simp at hs
theorem sheet_tree {n : Nat} {rs : List Rw} (h : ∀ r ∈ rs, RwOk r) (hl : Low n rs) (hs : scan rs [] 0 = ([], none)) : ∃ t : Tr, t.gd n ∧ t.rows = rs := by
  obtain ⟨t, h1, h2⟩ := parse n rs [] [] 0 h (fun l h => nomatch h) trivial (by simp) (by simpa using hl) hs
  exact ⟨t, h1, by simpa [frsR] using h2⟩
theorem cut_last {α : Type} (xs : List α) : cutL xs (some (-1)) none = xs.drop (xs.length - 1) := by
  unfold cutL
  have e : HT.sIx xs.length 0 (some (-1)) = xs.length - 1 := by
    show (if (-1 : Int) < 0 then ((-1 : Int) + (xs.length : Int)).toNat else min (-1 : Int).toNat xs.length) = xs.length - 1
    rw [if_pos (by decide)]
    omega
  rw [e, HT.sIx_none]
  exact List.take_of_length_le (by simp)
theorem cut_init {α : Type} (xs : List α) : cutL xs none (some (-1)) = xs.dropLast := by
  unfold cutL
  have e : HT.sIx xs.length xs.length (some (-1)) = xs.length - 1 := by
    show (if (-1 : Int) < 0 then ((-1 : Int) + (xs.length : Int)).toNat else min (-1 : Int).toNat xs.length) = xs.length - 1
    rw [if_pos (by decide)]
    omega
  rw [e, HT.sIx_none, List.drop_zero, Nat.sub_zero, List.dropLast_eq_take]
theorem last_drop {α : Type} (xs : List α) : xs.drop (xs.length - 1) = xs.getLast?.toList := by
  rcases List.eq_nil_or_concat xs with rfl | ⟨ys, y, rfl⟩
  · rfl
  · simp
theorem ne_last {st : List Str} {x : Str} (hs : ∀ s ∈ st, good 100 0 (.str s) = true) (hx : good 100 0 (.str x) = true) : neD (.list (cutL (st.map PyData.str) (some (-1)) none)) (.list [.str x]) = some (.bool (!decide (st.getLast? = some x))) := by
  rw [cut_last, last_drop, List.getLast?_map]
  have sx : SeqAt.shaped (.list [.str x]) = true := good_shaped (L := 100) (n := 1) (good_lst.mpr ⟨by simp, fun y hy => by simp at hy; rw [hy]; exact hx⟩) (by decide)
  cases c : st.getLast? with
  | none =>
    have s0 : SeqAt.shaped (.list []) = true := rfl
    rw [show (Option.map PyData.str none).toList = ([] : List D) from rfl, neD_of s0 sx]
    simp [PyData.eqv, PyData.eqvAll]
  | some y =>
    have hy := hs y (List.mem_of_getLast? c)
    have sy : SeqAt.shaped (.list [.str y]) = true := good_shaped (L := 100) (n := 1) (good_lst.mpr ⟨by simp, fun z hz => by simp at hz; rw [hz]; exact hy⟩) (by decide)
    rw [show (Option.map PyData.str (some y)).toList = ([.str y] : List D) from rfl, neD_of sy sx]
    by_cases e : y = x <;> simp [PyData.eqv, PyData.eqvAll, e]
theorem shaped_two : SeqAt.shaped (.tuple [.str (Str.ofString "next"), .str (Str.ofString "close")]) = true := by decide +kernel
theorem in_two {w : Str} (hw : w ∈ [sLine, sOpen, sNext, sClose]) : inD false (.str w) (.tuple [.str (Str.ofString "next"), .str (Str.ofString "close")]) = some (.bool (decide (w = sNext ∨ w = sClose))) := by
  have e : ∀ y : Str, (y == w) = decide (w = y) := fun y => by
    rw [Bool.eq_iff_iff, beq_iff_eq, decide_eq_true_eq]
    exact ⟨fun h => h.symm, fun h => h.symm⟩
  show inD false (.str w) (.tuple [.str sNext, .str sClose]) = _
  simp only [inD]
  rw [if_pos ⟨str_shaped (words_good w hw), shaped_two⟩]
  simp only [List.any_cons, List.any_nil, PyData.eqv, Bool.or_false, e, Bool.decide_or, Bool.false_eq_true, if_false]
def loOut (v0 : SV) (s2 s3 s4 : SV) : List Str × Option Nat → Option Out
  | (st, none) => some (.nx [v0, .own (st.map PyData.str), s2, s3, s4])
  | (_, some c) => some (.rt (.tuple [.none, .int (c : Nat)]))
def scanN : List Str × Option Nat → D
  | (st, none) => .tuple [.list (st.map PyData.str), .none]
  | (_, some c) => .tuple [.none, .int (c : Nat)]
def BrIn (r : Rw) : Prop := r.1 ∈ [Str.ofString "open", Str.ofString "close", Str.ofString "next"] ∧ r.2 ∈ [Str.ofString "a", Str.ofString "b"]
inductive Step1 : List Rw → List Rw → Prop
  | drop (a : List Rw) (r : Rw) (b : List Rw) : Step1 (a ++ r :: b) (a ++ b)
  | keep (a : List Rw) : Step1 a a
  | put (a : List Rw) (r : Rw) (b : List Rw) (h : RwOk r ∧ BrIn r) : Step1 (a ++ b) (a ++ r :: b)
theorem Step1.ok {a b : List Rw} (h : Step1 a b) (ha : ∀ r ∈ a, RwOk r) : ∀ r ∈ b, RwOk r := by
  cases h with
  | drop a r b => exact fun q hq => ha q (by simp only [List.mem_append, List.mem_cons] at hq ⊢; rcases hq with h | h; exact .inl h; exact .inr (.inr h))
  | keep => exact ha
  | put a r b h =>
    intro q hq
    simp only [List.mem_append, List.mem_cons] at hq
    rcases hq with h1 | rfl | h1
    · exact ha q (by simp [h1])
    · exact h.1
    · exact ha q (by simp [h1])
theorem Step1.mem {a b : List Rw} (h : Step1 a b) : ∀ r ∈ b, r ∈ a ∨ BrIn r := by
  cases h with
  | drop a r b => exact fun q hq => .inl (by simp only [List.mem_append, List.mem_cons] at hq ⊢; rcases hq with h | h; exact .inl h; exact .inr (.inr h))
  | keep => exact fun q hq => .inl hq
  | put a r b h =>
    intro q hq
    simp only [List.mem_append, List.mem_cons] at hq
    rcases hq with h1 | rfl | h1
    · exact .inl (by simp [h1])
    · exact .inr h.2
    · exact .inl (by simp [h1])
theorem Step1.len {a b : List Rw} (h : Step1 a b) : b.length ≤ a.length + 1 := by
  cases h <;> simp <;> omega
theorem bal1 (r : Rw) : bal [r] ≤ 1 ∧ -1 ≤ bal [r] := by
  simp only [bal]
  split
  · omega
  · split <;> omega
theorem Step1.low {n : Int} {a b : List Rw} (h : Step1 a b) (ha : Low n a) : Low (n + 1) b := by
  cases h with
  | keep => intro k; have := ha k; omega
  | drop a r b =>
    intro k
    by_cases hk : k ≤ a.length
    · have := ha k
      rw [List.take_append_of_le_length hk] at this ⊢
      omega
    · have := ha (k + 1)
      obtain ⟨j, rfl⟩ : ∃ j, k = a.length + j := ⟨k - a.length, by omega⟩
      rw [List.take_append, List.take_of_length_le (by omega)] at this ⊢
      rw [show a.length + j + 1 - a.length = j + 1 by omega] at this
      rw [show a.length + j - a.length = j by omega]
      rw [List.take_succ_cons, bal_app, show r :: List.take j b = [r] ++ List.take j b from rfl, bal_app] at this
      rw [bal_app]
      have := bal1 r
      omega
  | put a r b h =>
    intro k
    by_cases hk : k ≤ a.length
    · have := ha k
      rw [List.take_append_of_le_length hk] at this ⊢
      omega
    · have := ha (k - 1)
      obtain ⟨j, rfl⟩ : ∃ j, k = a.length + (j + 1) := ⟨k - a.length - 1, by omega⟩
      rw [show a.length + (j + 1) - 1 = a.length + j by omega] at this
      rw [List.take_append, List.take_of_length_le (by omega)] at this ⊢
      rw [show a.length + j - a.length = j by omega] at this
      rw [show a.length + (j + 1) - a.length = j + 1 by omega]
      rw [List.take_succ_cons, bal_app, show r :: List.take j b = [r] ++ List.take j b from rfl, bal_app]
      rw [bal_app] at this
      have := bal1 r
      omega
theorem wordsOC : ∀ y ∈ [Str.ofString "open", Str.ofString "close", Str.ofString "next"], y ∈ [sLine, sOpen, sNext, sClose] := by decide +kernel
theorem namesAB : ∀ y ∈ [Str.ofString "a", Str.ofString "b"], good 100 0 (.str y) = true := by decide +kernel
theorem low_len (rs : List Rw) : Low rs.length rs := fun k => by
  have h : ∀ l : List Rw, bal l ≤ l.length := fun l => by
    induction l with
    | nil => simp [bal]
    | cons r l ih =>
      have := bal1 r
      simp only [bal, List.length_cons] at this ⊢
      omega
  have := h (rs.take k)
  have l := List.length_take_le' k rs
  omega
theorem low_mono {n m : Int} {rs : List Rw} (h : Low n rs) (l : n ≤ m) : Low m rs := fun k => by have := h k; omega
theorem low_take {n : Int} {rs : List Rw} (h : Low n rs) (j : Nat) : Low n (rs.take j) := fun k => by
  rw [List.take_take]
  exact h _
theorem low_app {n : Int} {a b : List Rw} (ha : Low n a) (hb : Low (n - bal a) b) : Low n (a ++ b) := fun k => by
  rw [List.take_append]
  by_cases h : k ≤ a.length
  · rw [show k - a.length = 0 by omega]
    have := ha k
    simpa using this
  · rw [List.take_of_length_le (by omega), bal_app]
    have := hb (k - a.length)
    omega
theorem low_cons {n : Int} {r : Rw} {b : List Rw} (h0 : 0 ≤ n) (hb : Low (n - bal [r]) b) (h1 : bal [r] ≤ n) : Low n (r :: b) := by
  refine low_app (a := [r]) (fun k => ?_) hb
  cases k with
  | zero => simpa [bal] using h0
  | succ k => simpa using h1
theorem bal_o (x : Str) : bal [(sOpen, x)] = 1 := by simp [bal]
theorem bal_n (x : Str) : bal [(sNext, x)] = 0 := by simp [bal, w_no, w_nc]
theorem bal_c (x : Str) : bal [(sClose, x)] = -1 := by simp [bal, w_co]
theorem bal_l (x : Str) : bal [(sLine, x)] = 0 := by simp [bal, w_lo, show sLine ≠ sClose from fun z => w_cl z.symm]
mutual
theorem Tr.low : ∀ (t : Tr) (d : Nat), t.gd d → bal t.rows = 0 ∧ Low d t.rows
  | .nil, d, _ => ⟨rfl, fun k => by simp [Tr.rows, bal]⟩
  | .cons l t, d, h => by
    simp only [Tr.gd] at h
    obtain ⟨a1, a2⟩ := Lf.low l d h.1
    obtain ⟨b1, b2⟩ := Tr.low t d h.2
    simp only [Tr.rows]
    refine ⟨by rw [bal_app]; omega, low_app a2 (by rw [a1]; simpa using b2)⟩
theorem Lf.low : ∀ (l : Lf) (d : Nat), l.gd d → bal l.rows = 0 ∧ Low d l.rows
  | .txt s, d, _ => by
    simp only [Lf.rows]
    refine ⟨bal_l s, low_cons (by omega) (fun k => ?_) (by rw [bal_l]; omega)⟩
    rw [bal_l]
    simp [bal]
  | .lt nm ps, d, h => by
    simp only [Lf.gd] at h
    obtain ⟨_, h2, h3⟩ := h
    rcases Ps.low ps (d - 1) h3 nm sOpen with ⟨a1, a2⟩ | a
    case inr => rw [bal_o] at a; omega
    simp only [Lf.rows]
    rw [bal_o] at a1 a2
    refine ⟨by rw [bal_app, a1, bal_c]; rfl, low_app (low_mono a2 (by omega)) (low_cons (by omega) (fun k => ?_) (by rw [bal_c]; omega))⟩
    rw [bal_c]
    simp [bal]
    omega
theorem Ps.low : ∀ (ps : Ps) (d : Nat), ps.gd d → ∀ nm w : Str, bal (ps.rows nm w) = bal [(w, nm)] ∧ Low (d + bal [(w, nm)]) (ps.rows nm w) ∨ bal [(w, nm)] < 0
  | .one t, d, h, nm, w => by
    simp only [Ps.gd] at h
    obtain ⟨b1, b2⟩ := Tr.low t d h
    by_cases c : bal [(w, nm)] < 0
    · exact .inr c
    · simp only [Ps.rows]
      refine .inl ⟨by rw [show (w, nm) :: t.rows = [(w, nm)] ++ t.rows from rfl, bal_app]; omega, low_cons (by omega) (low_mono b2 (by omega)) (by omega)⟩
  | .cons t ps, d, h, nm, w => by
    simp only [Ps.gd] at h
    obtain ⟨b1, b2⟩ := Tr.low t d h.1
    by_cases c : bal [(w, nm)] < 0
    · exact .inr c
    · rcases Ps.low ps d h.2 nm sNext with ⟨a1, a2⟩ | a
      · rw [bal_n] at a1 a2
        simp only [Ps.rows]
        refine .inl ⟨by rw [show (w, nm) :: (t.rows ++ ps.rows nm sNext) = [(w, nm)] ++ (t.rows ++ ps.rows nm sNext) from rfl, bal_app, bal_app]; omega, low_cons (by omega) (low_app (low_mono b2 (by omega)) (low_mono a2 (by omega))) (by omega)⟩
      · rw [bal_n] at a
        omega
end
mutual
def Tr.lines : Tr → List Str
  | .nil => []
  | .cons l t => l.lines ++ t.lines
def Lf.lines : Lf → List Str
  | .txt s => [s]
  | .lt _ ps => ps.lines
def Ps.lines : Ps → List Str
  | .one t => t.lines
  | .cons t ps => t.lines ++ ps.lines
end
mutual
def Tr.lets : Tr → List Str
  | .nil => []
  | .cons l t => l.lets ++ t.lets
def Lf.lets : Lf → List Str
  | .txt _ => []
  | .lt nm ps => nm :: ps.lets
def Ps.lets : Ps → List Str
  | .one t => t.lets
  | .cons t ps => t.lets ++ ps.lets
end
mutual
def Tr.dp : Tr → Nat
  | .nil => 0
  | .cons l t => max l.dp t.dp
def Lf.dp : Lf → Nat
  | .txt _ => 0
  | .lt _ ps => 1 + ps.dp
def Ps.dp : Ps → Nat
  | .one t => t.dp
  | .cons t ps => max t.dp ps.dp
end
mutual
theorem Tr.lines_len : ∀ t : Tr, t.lines.length ≤ t.rows.length
  | .nil => by simp [Tr.lines, Tr.rows]
  | .cons l t => by
    have := Lf.lines_len l
    have := Tr.lines_len t
    simp only [Tr.lines, Tr.rows, List.length_append]
    omega
theorem Lf.lines_len : ∀ l : Lf, l.lines.length ≤ l.rows.length
  | .txt s => by simp [Lf.lines, Lf.rows]
  | .lt nm ps => by
    have := Ps.lines_len ps nm sOpen
    simp only [Lf.lines, Lf.rows, List.length_append]
    omega
theorem Ps.lines_len : ∀ (ps : Ps) (nm w : Str), ps.lines.length ≤ (ps.rows nm w).length
  | .one t, nm, w => by
    have := Tr.lines_len t
    simp only [Ps.lines, Ps.rows, List.length_cons]
    omega
  | .cons t ps, nm, w => by
    have := Tr.lines_len t
    have := Ps.lines_len ps nm sNext
    simp only [Ps.lines, Ps.rows, List.length_cons, List.length_append]
    omega
end
mutual
theorem Tr.lets_len : ∀ t : Tr, t.lets.length ≤ t.rows.length
  | .nil => by simp [Tr.lets, Tr.rows]
  | .cons l t => by
    have := Lf.lets_len l
    have := Tr.lets_len t
    simp only [Tr.lets, Tr.rows, List.length_append]
    omega
theorem Lf.lets_len : ∀ l : Lf, l.lets.length ≤ l.rows.length
  | .txt s => by simp [Lf.lets, Lf.rows]
  | .lt nm ps => by
    have := Ps.lets_len ps nm sOpen
    simp only [Lf.lets, Lf.rows, List.length_append, List.length_cons, List.length_nil]
    omega
theorem Ps.lets_len : ∀ (ps : Ps) (nm w : Str), ps.lets.length ≤ (ps.rows nm w).length
  | .one t, nm, w => by
    have := Tr.lets_len t
    simp only [Ps.lets, Ps.rows, List.length_cons]
    omega
  | .cons t ps, nm, w => by
    have := Tr.lets_len t
    have := Ps.lets_len ps nm sNext
    simp only [Ps.lets, Ps.rows, List.length_cons, List.length_append]
    omega
end
mutual
theorem Tr.lines_good : ∀ (t : Tr) (d : Nat), t.gd d → ∀ s ∈ t.lines, good 100 0 (.str s) = true
  | .nil, d, _, s, h => by simp [Tr.lines] at h
  | .cons l t, d, o, s, h => by
    simp only [Tr.gd] at o
    simp only [Tr.lines, List.mem_append] at h
    exact h.elim (Lf.lines_good l d o.1 s) (Tr.lines_good t d o.2 s)
theorem Lf.lines_good : ∀ (l : Lf) (d : Nat), l.gd d → ∀ s ∈ l.lines, good 100 0 (.str s) = true
  | .txt x, d, o, s, h => by
    simp only [Lf.gd] at o
    simp only [Lf.lines, List.mem_singleton] at h
    rw [h]; exact o
  | .lt nm ps, d, o, s, h => by
    simp only [Lf.gd] at o
    exact Ps.lines_good ps (d - 1) o.2.2 s (by simpa [Lf.lines] using h)
theorem Ps.lines_good : ∀ (ps : Ps) (d : Nat), ps.gd d → ∀ s ∈ ps.lines, good 100 0 (.str s) = true
  | .one t, d, o, s, h => by
    simp only [Ps.gd] at o
    exact Tr.lines_good t d o s (by simpa [Ps.lines] using h)
  | .cons t ps, d, o, s, h => by
    simp only [Ps.gd] at o
    simp only [Ps.lines, List.mem_append] at h
    exact h.elim (Tr.lines_good t d o.1 s) (Ps.lines_good ps d o.2 s)
end
mutual
theorem Tr.lets_good : ∀ (t : Tr) (d : Nat), t.gd d → ∀ s ∈ t.lets, good 100 0 (.str s) = true
  | .nil, d, _, s, h => by simp [Tr.lets] at h
  | .cons l t, d, o, s, h => by
    simp only [Tr.gd] at o
    simp only [Tr.lets, List.mem_append] at h
    exact h.elim (Lf.lets_good l d o.1 s) (Tr.lets_good t d o.2 s)
theorem Lf.lets_good : ∀ (l : Lf) (d : Nat), l.gd d → ∀ s ∈ l.lets, good 100 0 (.str s) = true
  | .txt x, d, o, s, h => by simp [Lf.lets] at h
  | .lt nm ps, d, o, s, h => by
    simp only [Lf.gd] at o
    simp only [Lf.lets, List.mem_cons] at h
    rcases h with rfl | h
    · exact o.1
    · exact Ps.lets_good ps (d - 1) o.2.2 s h
theorem Ps.lets_good : ∀ (ps : Ps) (d : Nat), ps.gd d → ∀ s ∈ ps.lets, good 100 0 (.str s) = true
  | .one t, d, o, s, h => by
    simp only [Ps.gd] at o
    exact Tr.lets_good t d o s (by simpa [Ps.lets] using h)
  | .cons t ps, d, o, s, h => by
    simp only [Ps.gd] at o
    simp only [Ps.lets, List.mem_append] at h
    exact h.elim (Tr.lets_good t d o.1 s) (Ps.lets_good ps d o.2 s)
end
theorem Tr.app_lines : ∀ (a b : Tr), (a.app b).lines = a.lines ++ b.lines
  | .nil, b => by simp [Tr.app, Tr.lines]
  | .cons l t, b => by simp [Tr.app, Tr.lines, Tr.app_lines t b]
theorem Tr.app_lets : ∀ (a b : Tr), (a.app b).lets = a.lets ++ b.lets
  | .nil, b => by simp [Tr.app, Tr.lets]
  | .cons l t, b => by simp [Tr.app, Tr.lets, Tr.app_lets t b]
theorem Tr.app_dp : ∀ (a b : Tr), (a.app b).dp = max a.dp b.dp
  | .nil, b => by simp [Tr.app, Tr.dp]
  | .cons l t, b => by simp only [Tr.app, Tr.dp, Tr.app_dp t b]; omega
abbrev txD (ss : List Str) : D := .tuple (ss.map PyData.str)
theorem add_tx {a b : List Str} (h : a.length + b.length ≤ 1000000) : addD (txD a) (txD b) = some (txD (a ++ b)) := by
  rw [add_tup (by simpa using h), ← List.map_append]
theorem tx_one (s : Str) : (.tuple [.str s] : D) = txD [s] := rfl
theorem ix1_lt (nm : Str) (ps : Ps) : ixD (Lf.lt nm ps).d (.int 1) = some (.tuple ps.ds) := by simp only [Lf.d]; exact ix1 _ _ _
theorem ix0_lt (nm : Str) (ps : Ps) : ixD (Lf.lt nm ps).d (.int 0) = some (.str nm) := by simp only [Lf.d]; exact ix0 _ _
theorem isi_lf (l : Lf) : isiB "str" l.d = match l with | .txt _ => true | .lt _ _ => false := by
  cases l with
  | txt s => exact isi_ss s
  | lt nm ps => exact isi_st _
def Tr.dps : Tr → List Int
  | .nil => []
  | .cons (.txt _) t => t.dps
  | .cons (.lt _ ps) t => (1 + (ps.dp : Int)) :: t.dps
def Ps.dps : Ps → List Int
  | .one t => [(t.dp : Int)]
  | .cons t ps => (t.dp : Int) :: ps.dps
theorem Tr.dps_max : ∀ t : Tr, maxI (0 :: t.dps) = some (t.dp : Int) := fun t => by
  rw [maxI_spec]
  have h : ∀ t : Tr, ((t.dp : Int) = 0 ∨ (t.dp : Int) ∈ t.dps) ∧ ∀ y ∈ t.dps, y ≤ (t.dp : Int) := by
    intro t
    induction t using Tr.rec (motive_2 := fun _ => True) (motive_3 := fun _ => True) with
    | nil => exact ⟨.inl rfl, fun y h => by simp [Tr.dps] at h⟩
    | cons l t _ ih =>
      cases l with
      | txt s => simp only [Tr.dps, Tr.dp, Lf.dp, Nat.zero_max]; exact ih
      | lt nm ps =>
        simp only [Tr.dps, Tr.dp, Lf.dp, List.mem_cons]
        refine ⟨?_, fun y hy => ?_⟩
        · by_cases c : 1 + ps.dp ≤ t.dp
          · rw [Nat.max_eq_right c]
            rcases ih.1 with e | e
            · exact .inl e
            · exact .inr (.inr e)
          · rw [Nat.max_eq_left (by omega)]
            exact .inr (.inl (by omega))
        · rcases hy with rfl | hy
          · omega
          · have := ih.2 y hy
            omega
    | _ => trivial
  refine ⟨?_, fun y hy => ?_⟩
  · rcases (h t).1 with e | e
    · rw [e]; exact List.mem_cons_self
    · exact List.mem_cons_of_mem _ e
  · rcases List.mem_cons.mp hy with rfl | hy
    · omega
    · exact (h t).2 y hy
theorem Ps.dps_max : ∀ ps : Ps, maxI ps.dps = some (ps.dp : Int)
  | .one t => by simp [Ps.dps, Ps.dp, maxI]
  | .cons t ps => by
    have ih := Ps.dps_max ps
    rw [maxI_spec] at ih ⊢
    simp only [Ps.dps, Ps.dp, List.mem_cons]
    refine ⟨?_, fun y hy => ?_⟩
    · by_cases c : ps.dp ≤ t.dp
      · exact .inl (by omega)
      · rw [Nat.max_eq_right (by omega)]
        exact .inr ih.1
    · rcases hy with rfl | hy
      · omega
      · have := ih.2 y hy
        omega
theorem dp_parts {g : List D → R D} {d : Nat} (hg : ∀ u : Tr, u.gd d → u.rows.length ≤ 900000 → g [.tuple u.ds] = some (.ok (.int (u.dp : Nat)))) : ∀ (ps : Ps) (a b c : SV) (nm w : Str), ps.gd d → (ps.rows nm w).length ≤ 900000 →
    lcL (rgName 2) rYes (rCall 1 g (rCons (rVar 2) rNil)) [a, b, c] ps.ds = some (ps.dps.map PyData.int)
  | .one t, a, b, c, nm, w, h, hl => by
    simp only [Ps.gd] at h
    simp only [Ps.rows, List.length_cons] at hl
    simp [Ps.ds, lcL, hg t h (by omega), Ps.dps]
  | .cons t ps, a, b, c, nm, w, h, hl => by
    simp only [Ps.gd] at h
    simp only [Ps.rows, List.length_cons, List.length_append] at hl
    have ih := dp_parts hg ps a b c nm sNext h.2 (by omega)
    simp [Ps.ds, lcL, hg t h.1 (by omega), Ps.dps, ih]
theorem Ps.ds_len : ∀ ps : Ps, ps.ds.length = ps.len
  | .one t => by simp [Ps.ds, Ps.len]
  | .cons t ps => by simp [Ps.ds, Ps.len, Ps.ds_len ps]
theorem Tr.dps_len : ∀ t : Tr, t.dps.length ≤ t.rows.length
  | .nil => by simp [Tr.dps]
  | .cons (.txt s) t => by
    have := Tr.dps_len t
    simp only [Tr.dps, Tr.rows, Lf.rows, List.length_append, List.length_singleton]
    omega
  | .cons (.lt nm ps) t => by
    have := Tr.dps_len t
    simp only [Tr.dps, Tr.rows, Lf.rows, List.length_append, List.length_singleton, List.length_cons]
    omega
theorem Tr.len_rows : ∀ t : Tr, t.len ≤ t.rows.length
  | .nil => by simp [Tr.len]
  | .cons l t => by
    have := Tr.len_rows t
    have l1 : 1 ≤ l.rows.length := by cases l <;> simp [Lf.rows]
    simp only [Tr.len, Tr.rows, List.length_append]
    omega
mutual
theorem Tr.good_gd {L : Nat} (hL : 100 ≤ L) : ∀ (t : Tr) (d : Nat), t.gd d → t.rows.length ≤ L → ∀ x ∈ t.ds, good L (3 * d) x = true
  | .nil, d, _, _, x, hx => by simp [Tr.ds] at hx
  | .cons l t, d, h, hl, x, hx => by
    simp only [Tr.gd] at h
    simp only [Tr.rows, List.length_append] at hl
    simp only [Tr.ds, List.mem_cons] at hx
    rcases hx with rfl | hx
    · exact Lf.good_gd hL l d h.1 (by omega)
    · exact Tr.good_gd hL t d h.2 (by omega) x hx
theorem Lf.good_gd {L : Nat} (hL : 100 ≤ L) : ∀ (l : Lf) (d : Nat), l.gd d → l.rows.length ≤ L → good L (3 * d) l.d = true
  | .txt s, d, h, _ => by
    simp only [Lf.gd] at h
    exact good_mono hL (Nat.zero_le _) h
  | .lt nm ps, d, h, hl => by
    simp only [Lf.gd] at h
    obtain ⟨h1, h3, h4⟩ := h
    simp only [Lf.rows, List.length_append] at hl
    have hp := Ps.good_gd hL ps (d - 1) h4 nm sOpen (by omega)
    have lp := Ps.ds_len ps
    have lr := Ps.len_rows ps nm sOpen
    obtain ⟨e, he⟩ : ∃ e, d = e + 1 := ⟨d - 1, by omega⟩
    subst he
    simp only [Lf.d]
    rw [show 3 * (e + 1) = (3 * e + 2) + 1 by omega]
    refine good_tup.mpr ⟨by simp; omega, fun x hx => ?_⟩
    simp only [List.mem_cons, List.not_mem_nil, or_false] at hx
    rcases hx with rfl | rfl
    · exact good_mono hL (Nat.zero_le _) h1
    · refine good_tup.mpr ⟨by omega, fun y hy => ?_⟩
      exact hp y hy
theorem Ps.good_gd {L : Nat} (hL : 100 ≤ L) : ∀ (ps : Ps) (d : Nat), ps.gd d → ∀ (nm w : Str), (ps.rows nm w).length ≤ L → ∀ x ∈ ps.ds, good L (3 * d + 1) x = true
  | .one t, d, h, nm, w, hl, x, hx => by
    simp only [Ps.gd] at h
    simp only [Ps.rows, List.length_cons] at hl
    simp only [Ps.ds, List.mem_singleton] at hx
    subst hx
    have := Tr.len_rows t
    have := Tr.len_ds t
    exact good_tup.mpr ⟨by omega, Tr.good_gd hL t d h (by omega)⟩
  | .cons t ps, d, h, nm, w, hl, x, hx => by
    simp only [Ps.gd] at h
    simp only [Ps.rows, List.length_cons, List.length_append] at hl
    simp only [Ps.ds, List.mem_cons] at hx
    have := Tr.len_rows t
    have := Tr.len_ds t
    rcases hx with rfl | hx
    · exact good_tup.mpr ⟨by omega, Tr.good_gd hL t d h.1 (by omega)⟩
    · exact Ps.good_gd hL ps d h.2 nm sNext (by omega) x hx
end
theorem gd_good {t : Tr} {d : Nat} (h : t.gd d) (hl : t.rows.length ≤ 1000000) : good 1000000 (3 * d + 1) (.tuple t.ds) = true := by
  have := Tr.len_rows t
  have := Tr.len_ds t
  exact good_tup.mpr ⟨by omega, Tr.good_gd (by decide) t d h hl⟩
theorem gd_shaped {t : Tr} {d : Nat} (h : t.gd d) (hd : d ≤ 20) (hl : t.rows.length ≤ 1000000) : SeqAt.shaped (.tuple t.ds) = true := good_shaped (gd_good h hl) (by omega)
theorem tx_shaped {ss : List Str} (h : ∀ s ∈ ss, good 100 0 (.str s) = true) (hl : ss.length ≤ 1000000) : SeqAt.shaped (txD ss) = true := good_shaped (strs_shaped h hl).2 (by decide)
theorem Tr.app_gd {d : Nat} : ∀ (a b : Tr), (a.app b).gd d ↔ a.gd d ∧ b.gd d
  | .nil, b => by simp [Tr.app, Tr.gd]
  | .cons l t, b => by simp only [Tr.app, Tr.gd, Tr.app_gd t b, and_assoc]
theorem Tr.take_gd {d : Nat} (n : Nat) (t : Tr) (h : t.gd d) : (t.take n).gd d ∧ (t.drop n).gd d := by
  rw [← Tr.parted n t] at h
  exact (Tr.app_gd _ _).mp h
theorem Tr.take_rows (n : Nat) (t : Tr) : t.rows = (t.take n).rows ++ (t.drop n).rows := by
  have := Tr.app_rows (t.take n) (t.drop n)
  rw [Tr.parted] at this
  exact this
theorem Tr.take_lines (n : Nat) (t : Tr) : t.lines = (t.take n).lines ++ (t.drop n).lines := by
  have := Tr.app_lines (t.take n) (t.drop n)
  rw [Tr.parted] at this
  exact this
theorem Tr.take_lets (n : Nat) (t : Tr) : t.lets = (t.take n).lets ++ (t.drop n).lets := by
  have := Tr.app_lets (t.take n) (t.drop n)
  rw [Tr.parted] at this
  exact this
theorem Tr.take_dp (n : Nat) (t : Tr) : t.dp = max (t.take n).dp (t.drop n).dp := by
  have := Tr.app_dp (t.take n) (t.drop n)
  rw [Tr.parted] at this
  exact this
/-- a tree of lines alone -/
def flatT (ss : List Str) : Tr := Tr.of (ss.map Lf.txt)
theorem flat_ds (ss : List Str) : (flatT ss).ds = ss.map PyData.str := by
  simp [flatT, Tr.of_ds, Lf.d, Function.comp_def]
theorem flat_gd {ss : List Str} (h : ∀ s ∈ ss, good 100 0 (.str s) = true) (d : Nat) : (flatT ss).gd d := Tr.of_gd fun l hl => by
  obtain ⟨s, hs, rfl⟩ := List.mem_map.mp hl
  simp only [Lf.gd]
  exact h s hs
theorem flat_rows (ss : List Str) : (flatT ss).rows.length = ss.length := by
  rw [flatT, Tr.of_rows]
  induction ss with
  | nil => rfl
  | cons s ss ih => simp only [List.map_cons, List.flatten_cons, List.length_append, ih, Lf.rows, List.length_cons, List.length_nil]; omega
theorem flat_lines (ss : List Str) : (flatT ss).lines = ss := by
  induction ss with
  | nil => rfl
  | cons s ss ih => simp only [flatT, List.map_cons, Tr.of, Tr.lines, Lf.lines] at ih ⊢; rw [ih]; rfl
theorem flat_lets (ss : List Str) : (flatT ss).lets = [] := by
  induction ss with
  | nil => rfl
  | cons s ss ih => simp only [flatT, List.map_cons, Tr.of, Tr.lets, Lf.lets] at ih ⊢; rw [ih]; rfl
theorem flat_dp (ss : List Str) : (flatT ss).dp = 0 := by
  induction ss with
  | nil => rfl
  | cons s ss ih => simp only [flatT, List.map_cons, Tr.of, Tr.dp, Lf.dp] at ih ⊢; rw [ih]; rfl
def wrapT (t : Tr) (nm : Str) : Tr := .cons (.lt nm (.one t)) .nil
theorem wrap_gd {t : Tr} {nm : Str} {d : Nat} (h : t.gd d) (hn : good 100 0 (.str nm) = true) : (wrapT t nm).gd (d + 1) := by
  simp only [wrapT, Tr.gd, Lf.gd, Ps.gd]
  exact ⟨⟨hn, by omega, by simpa using h⟩, trivial⟩
theorem wrap_rows (t : Tr) (nm : Str) : (wrapT t nm).rows = (sOpen, nm) :: (t.rows ++ [(sClose, nm)]) := by simp [wrapT, Tr.rows, Lf.rows, Ps.rows]
theorem wrap_lines (t : Tr) (nm : Str) : (wrapT t nm).lines = t.lines := by simp [wrapT, Tr.lines, Lf.lines, Ps.lines]
theorem wrap_lets (t : Tr) (nm : Str) : (wrapT t nm).lets = nm :: t.lets := by simp [wrapT, Tr.lets, Lf.lets, Ps.lets]
theorem wrap_dp (t : Tr) (nm : Str) : (wrapT t nm).dp = t.dp + 1 := by simp [wrapT, Tr.dp, Lf.dp, Ps.dp]; omega
theorem max2 (a b : Nat) : maxD [.int (a : Nat), .int (b : Nat)] = some (.int ((max a b : Nat) : Int)) := by
  simp only [maxD]
  congr 2
  split <;> omega
def Tr.lfs : Tr → List Lf
  | .nil => []
  | .cons l t => l :: t.lfs
theorem Tr.lfs_ds : ∀ t : Tr, t.ds = t.lfs.map Lf.d
  | .nil => by simp [Tr.ds, Tr.lfs]
  | .cons l t => by simp [Tr.ds, Tr.lfs, Tr.lfs_ds t]
theorem Tr.lfs_len : ∀ t : Tr, t.lfs.length = t.len
  | .nil => rfl
  | .cons l t => by simp [Tr.lfs, Tr.len, Tr.lfs_len t]
theorem Tr.lfs_gd {d : Nat} : ∀ {t : Tr}, t.gd d → ∀ l ∈ t.lfs, l.gd d
  | .nil, _, l, h => by simp [Tr.lfs] at h
  | .cons l t, o, x, h => by
    simp only [Tr.gd] at o
    rcases List.mem_cons.mp h with rfl | h
    · exact o.1
    · exact Tr.lfs_gd o.2 x h
theorem Ps.tl_gd {d : Nat} : ∀ {ps : Ps}, ps.gd d → ∀ u ∈ ps.tl, u.gd d
  | .one t, o, u, h => by
    simp only [Ps.gd] at o
    rw [List.mem_singleton.mp (show u ∈ [t] from h)]
    exact o
  | .cons t ps, o, u, h => by
    simp only [Ps.gd] at o
    rcases List.mem_cons.mp (show u ∈ t :: ps.tl from h) with rfl | h
    · exact o.1
    · exact Ps.tl_gd o.2 u h
/-- the part at a way; none: no such part -/
def Tr.atW : Tr → List Int → Option Tr
  | t, [] => some t
  | _, [_] => none
  | t, x :: y :: w => if 0 ≤ x ∧ x < t.len then (match t.lfs[x.toNat]? with
    | some (.lt _ ps) => if 0 ≤ y ∧ y < ps.len then (match ps.tl[y.toNat]? with
      | some u => u.atW w
      | none => none) else none
    | _ => none) else none
abbrev wyD (w : List Int) : D := .tuple (w.map PyData.int)
theorem ix_int {xs : List D} {x : Int} {d : D} (h0 : 0 ≤ x) (h : xs[x.toNat]? = some d) : ixD (.tuple xs) (.int x) = some d := by
  obtain ⟨n, rfl⟩ : ∃ n : Nat, x = n := ⟨x.toNat, by omega⟩
  simp only [ixD]
  exact atI_nat (by simpa using h)
theorem len_way (w : List Int) : lenD [wyD w] = some (.int (w.length : Nat)) := by simp
theorem cut2 (x y : Int) (w : List Int) : DL.cutD (wyD (x :: y :: w)) (some 2) none = some (wyD w) := by
  have := cut_from ((x :: y :: w).map (PyData.int : Int → D)) 2
  simp only [DL.cutD, wyD]
  rw [show (some 2 : Option Int) = some ((2 : Nat) : Int) from rfl, this]
  rfl
def Tr.tops : Tr → List Str
  | .nil => []
  | .cons (.txt s) t => s :: t.tops
  | .cons (.lt _ _) t => t.tops
mutual
def Tr.seekL (s : Str) (k : Nat) : Tr → Option (List Int)
  | .nil => none
  | .cons l t => match l.seekF s with
    | some (j, w) => some ((k : Int) :: (j : Int) :: w)
    | none => t.seekL s (k + 1)
def Lf.seekF (s : Str) : Lf → Option (Nat × List Int)
  | .txt _ => none
  | .lt _ ps => ps.seekP s 0
def Ps.seekP (s : Str) (j : Nat) : Ps → Option (Nat × List Int)
  | .one t => if s ∈ t.tops then some (j, []) else (t.seekL s 0).map fun w => (j, w)
  | .cons t ps => match (if s ∈ t.tops then some [] else t.seekL s 0) with
    | some w => some (j, w)
    | none => ps.seekP s (j + 1)
end
def Tr.seek (s : Str) (t : Tr) : Option (List Int) := if s ∈ t.tops then some [] else t.seekL s 0
def optW : Option (List Int) → D
  | none => .none
  | some w => wyD w
theorem Tr.tops_good {d : Nat} : ∀ (t : Tr), t.gd d → ∀ s ∈ t.tops, good 100 0 (.str s) = true
  | .nil, _, s, h => by simp [Tr.tops] at h
  | .cons (.txt x) t, o, s, h => by
    simp only [Tr.gd, Lf.gd] at o
    rcases List.mem_cons.mp (show s ∈ x :: t.tops from h) with rfl | h
    · exact o.1
    · exact Tr.tops_good t o.2 s h
  | .cons (.lt nm ps) t, o, s, h => by
    simp only [Tr.gd] at o
    exact Tr.tops_good t o.2 s h
theorem Tr.tops_len : ∀ t : Tr, t.tops.length ≤ t.rows.length
  | .nil => by simp [Tr.tops]
  | .cons (.txt x) t => by
    have := Tr.tops_len t
    simp only [Tr.tops, Tr.rows, Lf.rows, List.length_append, List.length_cons, List.length_nil]
    omega
  | .cons (.lt nm ps) t => by
    have := Tr.tops_len t
    simp only [Tr.tops, Tr.rows, List.length_append]
    omega
theorem in_strs {ss : List Str} {s : Str} (neg : Bool) (h : ∀ x ∈ ss, good 100 0 (.str x) = true) (hl : ss.length ≤ 1000000) (hs : good 100 0 (.str s) = true) : inD neg (.str s) (.list (ss.map PyData.str)) = some (.bool (if neg then !decide (s ∈ ss) else decide (s ∈ ss))) ∧ inD neg (.str s) (txD ss) = some (.bool (if neg then !decide (s ∈ ss) else decide (s ∈ ss))) := by
  have g := strs_shaped h hl
  have e : (ss.map (PyData.str : Str → D)).any (fun z => PyData.eqv z (.str s)) = decide (s ∈ ss) := by
    rw [Bool.eq_iff_iff, List.any_eq_true, decide_eq_true_eq]
    constructor
    · rintro ⟨z, hz, q⟩
      obtain ⟨x, hx, rfl⟩ := List.mem_map.mp hz
      simp only [PyData.eqv, beq_iff_eq] at q
      rw [← q]; exact hx
    · exact fun hx => ⟨.str s, List.mem_map.mpr ⟨s, hx, rfl⟩, by simp [PyData.eqv]⟩
  constructor
  · simp only [inD]
    rw [if_pos ⟨str_shaped hs, good_shaped g.1 (by decide)⟩, e]
  · simp only [inD, txD]
    rw [if_pos ⟨str_shaped hs, good_shaped g.2 (by decide)⟩, e]
def fdOut (j : Nat) (at_ : Nat) (pre : List SV) (s4 s5 s6 : SV) : Option (Nat × List Int) → Option Out
  | none => some (.nx (pre ++ [s4, s5, s6]))
  | some (j, w) => some (.rt (wyD ((at_ : Int) :: (j : Int) :: w)))
theorem add_way (a b : Int) (w : List Int) (h : w.length ≤ 1000) : addD (.tuple [.int a, .int b]) (wyD w) = some (wyD (a :: b :: w)) := by
  rw [add_tup (by simp; omega)]
  rfl
mutual
theorem Tr.seek_len : ∀ (t : Tr) (d : Nat) (s : Str) (k : Nat) (w : List Int), t.gd d → t.seekL s k = some w → w.length ≤ 2 * d
  | .nil, d, s, k, w, _, h => by simp [Tr.seekL] at h
  | .cons l t, d, s, k, w, o, h => by
    simp only [Tr.gd] at o
    simp only [Tr.seekL] at h
    split at h
    · rename_i j v q
      cases h
      have := Lf.seek_len l d s j v o.1 q
      simp only [List.length_cons]
      omega
    · exact Tr.seek_len t d s (k + 1) w o.2 h
theorem Lf.seek_len : ∀ (l : Lf) (d : Nat) (s : Str) (j : Nat) (w : List Int), l.gd d → l.seekF s = some (j, w) → w.length + 2 ≤ 2 * d
  | .txt x, d, s, j, w, _, h => by simp [Lf.seekF] at h
  | .lt nm ps, d, s, j, w, o, h => by
    simp only [Lf.gd] at o
    have := Ps.seek_len ps (d - 1) s 0 j w o.2.2 (by simpa [Lf.seekF] using h)
    omega
theorem Ps.seek_len : ∀ (ps : Ps) (d : Nat) (s : Str) (k j : Nat) (w : List Int), ps.gd d → ps.seekP s k = some (j, w) → w.length ≤ 2 * d
  | .one t, d, s, k, j, w, o, h => by
    simp only [Ps.gd] at o
    simp only [Ps.seekP] at h
    split at h
    · cases h; simp
    · obtain ⟨v, e1, e2⟩ := Option.map_eq_some_iff.mp h
      cases e2
      exact Tr.seek_len t d s 0 _ o e1
  | .cons t ps, d, s, k, j, w, o, h => by
    simp only [Ps.gd] at o
    simp only [Ps.seekP] at h
    split at h
    · rename_i v q
      cases h
      split at q
      · cases q; simp
      · exact Tr.seek_len t d s 0 _ o.1 q
    · exact Ps.seek_len ps d s (k + 1) j w o.2 h
end
theorem seek_le {t : Tr} {d : Nat} {s : Str} {w : List Int} (h : t.gd d) (e : t.seek s = some w) : w.length ≤ 2 * d := by
  unfold Tr.seek at e
  split at e
  · cases e; simp
  · exact Tr.seek_len t d s 0 w h e
def fdOut2 (pre : List SV) (s2 s3 s4 s5 s6 : SV) : Option (List Int) → Option Out
  | none => some (.nx (pre ++ [s2, s3, s4, s5, s6]))
  | some w => some (.rt (wyD w))
mutual
theorem Tr.treeB_fn : ∀ (t : Tr) (d : Nat), t.fn d → treeB (d + 1) (.tuple t.ds) = true
  | .nil, d, _ => by simp [Tr.ds, treeB]
  | .cons l t, d, h => by
    simp only [Tr.fn] at h
    have h1 := Lf.treeB_fn l d h.1
    have h2 := Tr.treeB_fn t d h.2
    simp only [treeB, Tr.ds, List.all_cons, Bool.and_eq_true] at h2 ⊢
    exact ⟨h1, h2⟩
theorem Lf.treeB_fn : ∀ (l : Lf) (d : Nat), l.fn d → (lineD l.d || letB (treeB d) l.d) = true
  | .txt s, d, h => by
    simp only [Lf.fn] at h
    simp [Lf.d, lineD, h.2]
  | .lt nm ps, d, h => by
    simp only [Lf.fn] at h
    obtain ⟨e, rfl⟩ : ∃ e, d = e + 1 := ⟨d - 1, by omega⟩
    have hp := Ps.treeB_fn ps e h.2.2.2
    have ne : ps.ds ≠ [] := by cases ps <;> simp [Ps.ds]
    have ne' : 0 < ps.ds.length := List.length_pos_iff.mpr ne
    simp [Lf.d, lineD, letB, nameD, h.1.2]
    exact ⟨ne, hp⟩
theorem Ps.treeB_fn : ∀ (ps : Ps) (d : Nat), ps.fn d → ∀ x ∈ ps.ds, treeB (d + 1) x = true
  | .one t, d, h, x, hx => by
    simp only [Ps.fn] at h
    rw [List.mem_singleton.mp (show x ∈ [.tuple t.ds] by simpa [Ps.ds] using hx)]
    exact Tr.treeB_fn t d h.2
  | .cons t ps, d, h, x, hx => by
    simp only [Ps.fn] at h
    simp only [Ps.ds, List.mem_cons] at hx
    rcases hx with rfl | hx
    · exact Tr.treeB_fn t d h.1.2
    · exact Ps.treeB_fn ps d h.2 x hx
end
theorem Ps.tl_inj : ∀ (a b : Ps), a.tl = b.tl → a = b
  | .one t, .one u, h => by simp only [Ps.tl, List.cons.injEq, and_true] at h; rw [h]
  | .one t, .cons u ps, h => by cases ps <;> simp [Ps.tl] at h
  | .cons t ps, .one u, h => by cases ps <;> simp [Ps.tl] at h
  | .cons t ps, .cons u qs, h => by
    simp only [Ps.tl, List.cons.injEq] at h
    rw [h.1, Ps.tl_inj ps qs h.2]
mutual
theorem Tr.swap_swap : ∀ t : Tr, t.swap.swap = t
  | .nil => by simp [Tr.swap]
  | .cons l t => by simp [Tr.swap, Lf.swap_swap l, Tr.swap_swap t]
theorem Lf.swap_swap : ∀ l : Lf, l.swap.swap = l
  | .txt s => by simp [Lf.swap]
  | .lt nm ps => by
    simp only [Lf.swap]
    congr 1
    apply Ps.tl_inj
    rw [Ps.swap_tl, Ps.swap_tl, List.map_reverse, List.reverse_reverse, List.map_map]
    exact Ps.swap_all ps
theorem Ps.swap_all : ∀ ps : Ps, ps.tl.map (Tr.swap ∘ Tr.swap) = ps.tl
  | .one t => by simp [Ps.tl, Tr.swap_swap t]
  | .cons t ps => by simp [Ps.tl, Tr.swap_swap t, Ps.swap_all ps]
end
theorem Ps.lines_tl : ∀ ps : Ps, ps.lines = (ps.tl.map Tr.lines).flatten
  | .one t => by simp [Ps.lines, Ps.tl]
  | .cons t ps => by simp [Ps.lines, Ps.tl, Ps.lines_tl ps]
theorem Ps.lets_tl : ∀ ps : Ps, ps.lets = (ps.tl.map Tr.lets).flatten
  | .one t => by simp [Ps.lets, Ps.tl]
  | .cons t ps => by simp [Ps.lets, Ps.tl, Ps.lets_tl ps]
theorem flat_rev {α : Type} (l : List (List α)) : l.reverse.flatten.Perm l.flatten := by
  induction l with
  | nil => simp
  | cons x l ih =>
    simp only [List.reverse_cons, List.flatten_append, List.flatten_cons, List.flatten_nil, List.append_nil]
    exact (List.perm_append_comm).trans (List.Perm.append_left x ih)
theorem flat_perm {α β : Type} {f g : α → List β} : ∀ (l : List α), (∀ a ∈ l, (f a).Perm (g a)) → (l.map f).flatten.Perm (l.map g).flatten
  | [], _ => by simp
  | a :: l, h => by
    simp only [List.map_cons, List.flatten_cons]
    exact (h a List.mem_cons_self).append (flat_perm l fun b hb => h b (List.mem_cons_of_mem _ hb))
mutual
theorem Tr.swap_lines : ∀ t : Tr, t.swap.lines.Perm t.lines
  | .nil => by simp [Tr.swap]
  | .cons l t => by simp only [Tr.swap, Tr.lines]; exact (Lf.swap_lines l).append (Tr.swap_lines t)
theorem Lf.swap_lines : ∀ l : Lf, l.swap.lines.Perm l.lines
  | .txt s => by simp [Lf.swap]
  | .lt nm ps => by
    simp only [Lf.swap, Lf.lines]
    rw [Ps.lines_tl, Ps.lines_tl, Ps.swap_tl, List.map_reverse, List.map_map]
    exact (flat_rev _).trans (flat_perm ps.tl (Ps.swap_lines ps))
theorem Ps.swap_lines : ∀ ps : Ps, ∀ u ∈ ps.tl, ((Tr.lines ∘ Tr.swap) u).Perm u.lines
  | .one t, u, h => by
    have e := List.mem_singleton.mp (show u ∈ [t] from h)
    rw [e]
    exact Tr.swap_lines t
  | .cons t ps, u, h => by
    rcases List.mem_cons.mp (show u ∈ t :: ps.tl from h) with e | h
    · rw [e]; exact Tr.swap_lines t
    · exact Ps.swap_lines ps u h
end
mutual
theorem Tr.swap_lets : ∀ t : Tr, t.swap.lets.Perm t.lets
  | .nil => by simp [Tr.swap]
  | .cons l t => by simp only [Tr.swap, Tr.lets]; exact (Lf.swap_lets l).append (Tr.swap_lets t)
theorem Lf.swap_lets : ∀ l : Lf, l.swap.lets.Perm l.lets
  | .txt s => by simp [Lf.swap]
  | .lt nm ps => by
    simp only [Lf.swap, Lf.lets]
    rw [Ps.lets_tl, Ps.lets_tl, Ps.swap_tl, List.map_reverse, List.map_map]
    exact List.Perm.cons nm ((flat_rev _).trans (flat_perm ps.tl (Ps.swap_lets ps)))
theorem Ps.swap_lets : ∀ ps : Ps, ∀ u ∈ ps.tl, ((Tr.lets ∘ Tr.swap) u).Perm u.lets
  | .one t, u, h => by
    have e := List.mem_singleton.mp (show u ∈ [t] from h)
    rw [e]
    exact Tr.swap_lets t
  | .cons t ps, u, h => by
    rcases List.mem_cons.mp (show u ∈ t :: ps.tl from h) with e | h
    · rw [e]; exact Tr.swap_lets t
    · exact Ps.swap_lets ps u h
end
def mxl : List Nat → Nat
  | [] => 0
  | x :: xs => max x (mxl xs)
theorem mxl_app (a b : List Nat) : mxl (a ++ b) = max (mxl a) (mxl b) := by
  induction a with
  | nil => simp [mxl]
  | cons x a ih => simp only [List.cons_append, mxl, ih]; omega
theorem mxl_rev (a : List Nat) : mxl a.reverse = mxl a := by
  induction a with
  | nil => rfl
  | cons x a ih => simp only [List.reverse_cons, mxl_app, ih, mxl]; omega
theorem Ps.dp_tl : ∀ ps : Ps, ps.dp = mxl (ps.tl.map Tr.dp)
  | .one t => by simp [Ps.dp, Ps.tl, mxl]
  | .cons t ps => by simp [Ps.dp, Ps.tl, mxl, Ps.dp_tl ps]
mutual
theorem Tr.swap_dp : ∀ t : Tr, t.swap.dp = t.dp
  | .nil => by simp [Tr.swap]
  | .cons l t => by simp only [Tr.swap, Tr.dp, Lf.swap_dp l, Tr.swap_dp t]
theorem Lf.swap_dp : ∀ l : Lf, l.swap.dp = l.dp
  | .txt s => by simp [Lf.swap]
  | .lt nm ps => by
    simp only [Lf.swap, Lf.dp]
    rw [Ps.dp_tl, Ps.dp_tl, Ps.swap_tl, List.map_reverse, mxl_rev, List.map_map, Ps.swap_dps ps]
theorem Ps.swap_dps : ∀ ps : Ps, ps.tl.map (Tr.dp ∘ Tr.swap) = ps.tl.map Tr.dp
  | .one t => by simp [Ps.tl, Tr.swap_dp t]
  | .cons t ps => by simp [Ps.tl, Tr.swap_dp t, Ps.swap_dps ps]
end
theorem str_inj (a b : Str) (h : PySem.W.keyToks (.str a) = PySem.W.keyToks (.str b)) : a = b := by
  simp only [PySem.W.keyToks, List.cons.injEq, Sum.inr.injEq, and_true] at h
  exact PySem.W.str_of_cps h
theorem sort_strs {a b : List Str} (h : a.Perm b) : (a.map (PyData.str : Str → D)).mergeSort leDt = (b.map PyData.str).mergeSort leDt := by
  refine sort_perm (h.map _) fun x hx y hy e => ?_
  obtain ⟨r, _, rfl⟩ := List.mem_map.mp hx
  obtain ⟨q, _, rfl⟩ := List.mem_map.mp hy
  rw [str_inj r q e]
theorem strs_sortOk {ss : List Str} (h : ∀ s ∈ ss, good 100 0 (.str s) = true) : sortOk (ss.map PyData.str) = true := by
  simp only [sortOk, Bool.and_eq_true, Bool.or_eq_true, List.all_eq_true, decide_eq_true_eq]
  refine ⟨⟨⟨fun x hx y hy => ?_, .inl (.inr fun x hx => ?_)⟩, fun x hx => ?_⟩, canLayAll_of fun x hx => ?_⟩
  · obtain ⟨r, _, rfl⟩ := List.mem_map.mp hx
    obtain ⟨q, _, rfl⟩ := List.mem_map.mp hy
    simp [PySem.W.alike]
  · obtain ⟨r, _, rfl⟩ := List.mem_map.mp hx
    rfl
  · obtain ⟨r, hr, rfl⟩ := List.mem_map.mp hx
    have := (good_lay (h r hr)).2
    omega
  · obtain ⟨r, hr, rfl⟩ := List.mem_map.mp hx
    exact (good_lay (h r hr)).1
theorem sorted_strs {ss : List Str} (h : ∀ s ∈ ss, good 100 0 (.str s) = true) : sortedD [txD ss] = some (.list ((ss.map PyData.str).mergeSort leDt)) := by
  simp only [txD, sortedD, strs_sortOk h, if_true]
theorem sorts_shaped {ss : List Str} (h : ∀ s ∈ ss, good 100 0 (.str s) = true) (hl : ss.length ≤ 1000000) : SeqAt.shaped (.list ((ss.map PyData.str).mergeSort leDt)) = true := by
  have pm := List.mergeSort_perm (ss.map (PyData.str : Str → D)) leDt
  refine good_shaped (L := 1000000) (n := 2) (good_lst.mpr ⟨by rw [pm.length_eq]; simpa using hl, fun x hx => ?_⟩) (by decide)
  obtain ⟨r, hr, rfl⟩ := List.mem_map.mp (pm.mem_iff.mp hx)
  exact good_mono (by decide) (by decide) (h r hr)
def pick (w : Str) (rs : List Rw) : List Str := (rs.filter fun r => decide (r.1 = w)).map (·.2)
theorem pick_app (w : Str) (a b : List Rw) : pick w (a ++ b) = pick w a ++ pick w b := by simp [pick]
theorem pick_cons (w : Str) (r : Rw) (b : List Rw) : pick w (r :: b) = if r.1 = w then r.2 :: pick w b else pick w b := by
  simp only [pick, List.filter_cons, decide_eq_true_eq]
  split <;> simp
mutual
theorem Tr.pick_l : ∀ t : Tr, pick sLine t.rows = t.lines
  | .nil => by simp [Tr.rows, Tr.lines, pick]
  | .cons l t => by simp only [Tr.rows, Tr.lines, pick_app, Lf.pick_l l, Tr.pick_l t]
theorem Lf.pick_l : ∀ l : Lf, pick sLine l.rows = l.lines
  | .txt s => by simp [Lf.rows, Lf.lines, pick]
  | .lt nm ps => by
    have := Ps.pick_l ps nm sOpen w_ol
    simp only [Lf.rows, Lf.lines, pick_app, this, pick_cons, if_neg w_cl]
    simp [pick]
theorem Ps.pick_l : ∀ (ps : Ps) (nm w : Str), w ≠ sLine → pick sLine (ps.rows nm w) = ps.lines
  | .one t, nm, w, hw => by simp only [Ps.rows, Ps.lines, pick_cons, if_neg hw, Tr.pick_l t]
  | .cons t ps, nm, w, hw => by simp only [Ps.rows, Ps.lines, pick_cons, if_neg hw, pick_app, Tr.pick_l t, Ps.pick_l ps nm sNext w_nl]
end
mutual
theorem Tr.pick_o : ∀ t : Tr, pick sOpen t.rows = t.lets
  | .nil => by simp [Tr.rows, Tr.lets, pick]
  | .cons l t => by simp only [Tr.rows, Tr.lets, pick_app, Lf.pick_o l, Tr.pick_o t]
theorem Lf.pick_o : ∀ l : Lf, pick sOpen l.rows = l.lets
  | .txt s => by simp [Lf.rows, Lf.lets, pick, w_lo]
  | .lt nm ps => by
    simp only [Lf.rows, Lf.lets, pick_app, pick_cons, if_neg w_co]
    cases ps with
    | one t => simp only [Ps.rows, Ps.lets, pick_cons, if_true, Tr.pick_o t]; simp [pick]
    | cons t ps => simp only [Ps.rows, Ps.lets, pick_cons, if_true, pick_app, Tr.pick_o t, Ps.pick_o ps nm]; simp [pick]
theorem Ps.pick_o : ∀ (ps : Ps) (nm : Str), pick sOpen (ps.rows nm sNext) = ps.lets
  | .one t, nm => by simp only [Ps.rows, Ps.lets, pick_cons, if_neg w_no, Tr.pick_o t]
  | .cons t ps, nm => by simp only [Ps.rows, Ps.lets, pick_cons, if_neg w_no, pick_app, Tr.pick_o t, Ps.pick_o ps nm]
end
mutual
theorem Tr.seek_none : ∀ (t : Tr) (s : Str) (k : Nat), (s ∈ t.tops ∨ t.seekL s k ≠ none) ↔ s ∈ t.lines
  | .nil, s, k => by simp [Tr.tops, Tr.seekL, Tr.lines]
  | .cons (.txt x) t, s, k => by
    have ih := Tr.seek_none t s (k + 1)
    simp only [Tr.tops, Tr.seekL, Lf.seekF, Tr.lines, Lf.lines, List.mem_cons, List.mem_append, List.not_mem_nil, or_false]
    rw [← ih, or_assoc]
  | .cons (.lt nm ps) t, s, k => by
    have ih := Tr.seek_none t s (k + 1)
    have hp := Ps.seek_none ps s 0
    simp only [Tr.tops, Tr.seekL, Lf.seekF, Tr.lines, Lf.lines, List.mem_append]
    rw [← ih, ← hp]
    cases c : ps.seekP s 0 with
    | none => simp
    | some v => simp
theorem Ps.seek_none : ∀ (ps : Ps) (s : Str) (k : Nat), ps.seekP s k ≠ none ↔ s ∈ ps.lines
  | .one t, s, k => by
    have h := Tr.seek_none t s 0
    simp only [Ps.seekP, Ps.lines]
    rw [← h]
    by_cases c : s ∈ t.tops
    · simp [c]
    · simp [c]
  | .cons t ps, s, k => by
    have h := Tr.seek_none t s 0
    have hp := Ps.seek_none ps s (k + 1)
    simp only [Ps.seekP, Ps.lines, List.mem_append]
    rw [← h, ← hp]
    by_cases c : s ∈ t.tops
    · simp [c]
    · cases c2 : t.seekL s 0 with
      | none => simp [c, c2]
      | some v => simp [c, c2]
end
theorem seek_none (t : Tr) (s : Str) : t.seek s = none ↔ s ∉ t.lines := by
  have h := Tr.seek_none t s 0
  unfold Tr.seek
  by_cases c : s ∈ t.tops
  · rw [if_pos c]
    have := h.mp (.inl c)
    simp [this]
  · rw [if_neg c]
    constructor
    · intro e q
      rcases h.mpr q with z | z
      · exact c z
      · exact z e
    · intro q
      cases c2 : t.seekL s 0 with
      | none => rfl
      | some v => exact absurd (h.mp (.inr (by rw [c2]; simp))) q
theorem Tr.seek_step : ∀ (t : Tr) (s : Str) (k : Nat) (v : List Int), t.seekL s k = some v → ∃ (i j : Nat) (w : List Int) (nm : Str) (ps : Ps), v = ((k + i : Nat) : Int) :: (j : Int) :: w ∧ t.lfs[i]? = some (.lt nm ps) ∧ ps.seekP s 0 = some (j, w)
  | .nil, s, k, v, h => by simp [Tr.seekL] at h
  | .cons (.txt x) t, s, k, v, h => by
    simp only [Tr.seekL, Lf.seekF] at h
    obtain ⟨i, j, w, nm, ps, e1, e2, e3⟩ := Tr.seek_step t s (k + 1) v h
    exact ⟨i + 1, j, w, nm, ps, by rw [e1]; congr 2; omega, by simpa [Tr.lfs] using e2, e3⟩
  | .cons (.lt nm ps) t, s, k, v, h => by
    simp only [Tr.seekL, Lf.seekF] at h
    split at h
    · rename_i j w q
      cases h
      exact ⟨0, j, w, nm, ps, by simp, by simp [Tr.lfs], q⟩
    · obtain ⟨i, j, w, nm', ps', e1, e2, e3⟩ := Tr.seek_step t s (k + 1) v h
      exact ⟨i + 1, j, w, nm', ps', by rw [e1]; congr 2; omega, by simpa [Tr.lfs] using e2, e3⟩
theorem Ps.seek_step : ∀ (ps : Ps) (s : Str) (k j : Nat) (w : List Int), ps.seekP s k = some (j, w) → ∃ (i : Nat) (u : Tr), j = k + i ∧ ps.tl[i]? = some u ∧ u.seek s = some w
  | .one t, s, k, j, w, h => by
    simp only [Ps.seekP] at h
    refine ⟨0, t, ?_, by simp [Ps.tl], ?_⟩
    · split at h
      · cases h; rfl
      · obtain ⟨v, _, e⟩ := Option.map_eq_some_iff.mp h
        cases e; rfl
    · unfold Tr.seek
      split at h
      · rename_i c; cases h; rw [if_pos c]
      · rename_i c
        obtain ⟨v, e1, e⟩ := Option.map_eq_some_iff.mp h
        cases e
        rw [if_neg c]; exact e1
  | .cons t ps, s, k, j, w, h => by
    simp only [Ps.seekP] at h
    split at h
    · rename_i v q
      cases h
      exact ⟨0, t, rfl, by simp [Ps.tl], q⟩
    · obtain ⟨i, u, e1, e2, e3⟩ := Ps.seek_step ps s (k + 1) j w h
      exact ⟨i + 1, u, by omega, by simpa [Ps.tl] using e2, e3⟩
theorem seek_at : ∀ (n : Nat) (t : Tr) (s : Str) (w : List Int), w.length ≤ n → t.seek s = some w → ∃ u, t.atW w = some u ∧ s ∈ u.tops
  | n, t, s, [], _, h => by
    refine ⟨t, by simp [Tr.atW], ?_⟩
    unfold Tr.seek at h
    split at h
    · assumption
    · obtain ⟨i, j, w, nm, ps, e1, _⟩ := Tr.seek_step t s 0 _ h
      cases e1
  | 0, t, s, x :: w, hn, _ => by simp at hn
  | n + 1, t, s, x :: w, hn, h => by
    unfold Tr.seek at h
    split at h
    · cases h
    · obtain ⟨i, j, v, nm, ps, e1, e2, e3⟩ := Tr.seek_step t s 0 _ h
      obtain ⟨i2, u, e4, e5, e6⟩ := Ps.seek_step ps s 0 j v e3
      cases e1
      simp only [List.length_cons] at hn
      obtain ⟨z, e7, e8⟩ := seek_at n u s v (by omega) e6
      have li := (List.getElem?_eq_some_iff.mp e2).1
      rw [Tr.lfs_len] at li
      have lj := (List.getElem?_eq_some_iff.mp e5).1
      rw [Ps.tl_len] at lj
      refine ⟨z, ?_, e8⟩
      have ej : j = i2 := by omega
      subst ej
      simp only [Tr.atW, Nat.zero_add]
      rw [if_pos ⟨by omega, by omega⟩]
      simp only [Int.toNat_natCast, e2]
      rw [if_pos ⟨by omega, by omega⟩]
      simp only [e5]
      exact e7
theorem seek_wrap {t : Tr} {s : Str} {w : List Int} (nm : Str) (h : t.seek s = some w) : (wrapT t nm).seek s = some (0 :: 0 :: w) := by
  unfold Tr.seek at h ⊢
  simp only [wrapT, Tr.tops, List.not_mem_nil, if_false, Tr.seekL, Lf.seekF, Ps.seekP]
  split at h
  · rename_i c; cases h; simp [c]
  · rename_i c; simp [c, h]
theorem sortSame {a b : List Str} (h : a.Perm b) (ga : ∀ s ∈ b, good 100 0 (.str s) = true) : sortedD [txD a] = sortedD [txD b] := by
  rw [sorted_strs ga, sorted_strs (fun s hs => ga s (h.mem_iff.mp hs)), sort_strs h]
theorem Ps.part_rows : ∀ (ps : Ps) (nm w : Str), ∀ v ∈ ps.tl, v.rows.length ≤ (ps.rows nm w).length
  | .one t, nm, w, v, h => by
    have e := List.mem_singleton.mp (show v ∈ [t] from h)
    rw [e]
    simp [Ps.rows]
  | .cons t ps, nm, w, v, h => by
    rcases List.mem_cons.mp (show v ∈ t :: ps.tl from h) with e | h
    · rw [e]; simp [Ps.rows]; omega
    · have := Ps.part_rows ps nm sNext v h
      simp [Ps.rows]; omega
theorem Tr.leaf_rows : ∀ (t : Tr), ∀ l ∈ t.lfs, l.rows.length ≤ t.rows.length
  | .nil, l, h => by simp [Tr.lfs] at h
  | .cons m t, l, h => by
    rcases List.mem_cons.mp (show l ∈ m :: t.lfs from h) with e | h
    · rw [e]; simp [Tr.rows]
    · have := Tr.leaf_rows t l h
      simp [Tr.rows]; omega
theorem atW_sub : ∀ (w : List Int) (t u : Tr) (d : Nat), t.gd d → t.atW w = some u → u.gd d ∧ u.rows.length ≤ t.rows.length
  | [], t, u, d, h, e => by cases e; exact ⟨h, Nat.le_refl _⟩
  | [x], t, u, d, h, e => by cases e
  | x :: y :: w, t, u, d, h, e => by
    simp only [Tr.atW] at e
    split at e
    · split at e
      · rename_i nm ps q1
        split at e
        · split at e
          · rename_i v q2
            have gl := Tr.lfs_gd h _ (List.mem_of_getElem? q1)
            simp only [Lf.gd] at gl
            have gv := Ps.tl_gd gl.2.2 _ (List.mem_of_getElem? q2)
            obtain ⟨g1, g2⟩ := atW_sub w v u (d - 1) gv e
            refine ⟨Tr.gd_mono (by omega) u g1, Nat.le_trans g2 ?_⟩
            have b1 := Ps.part_rows ps nm sOpen v (List.mem_of_getElem? q2)
            have b2 := Tr.leaf_rows t _ (List.mem_of_getElem? q1)
            simp only [Lf.rows, List.length_append] at b2
            omega
          · cases e
        · cases e
      · cases e
    · cases e
theorem wy_shaped (w : List Int) (h : w.length ≤ 1000) (hb : ∀ x ∈ w, x.natAbs < 2 ^ 63) : SeqAt.shaped (wyD w) = true := by
  refine good_shaped (L := 1000) (n := 1) (good_tup.mpr ⟨by simpa using h, fun x hx => ?_⟩) (by decide)
  obtain ⟨i, hi, rfl⟩ := List.mem_map.mp hx
  exact good_int.mpr (hb i hi)
theorem atW_small : ∀ (w : List Int) (t u : Tr), t.rows.length ≤ 900000 → t.atW w = some u → ∀ x ∈ w, x.natAbs < 2 ^ 63
  | [], t, u, _, _, x, hx => by simp at hx
  | [_], t, u, _, e, x, hx => by cases e
  | a :: b :: w, t, u, hl, e, x, hx => by
    have e0 := e
    simp only [Tr.atW] at e
    split at e
    · rename_i c1
      split at e
      · rename_i nm ps q1
        split at e
        · rename_i c2
          split at e
          · rename_i v q2
            have l1 := Tr.len_rows t
            have b2 := Tr.leaf_rows t _ (List.mem_of_getElem? q1)
            simp only [Lf.rows, List.length_append] at b2
            have b1 := Ps.part_rows ps nm sOpen v (List.mem_of_getElem? q2)
            have b3 := Ps.len_rows ps nm sOpen
            simp only [List.mem_cons] at hx
            rcases hx with rfl | rfl | hx
            · omega
            · omega
            · exact atW_small w v u (by omega) e x hx
          · cases e
        · cases e
      · cases e
    · cases e
end B
set_option Elab.async false
set_option linter.all false
set_option maxRecDepth 100000
/-! what the law spoils: its places, what is put there -/
namespace B
open PySem L2 DL PyProof.Rows
section
variable {r : RE} {rs : RA} {ρ : En}
theorem g_cons {d : D} {ds : List D} (h1 : r ρ = some (.ok d)) (h2 : rs ρ = some (.ok ds)) : rCons r rs ρ = some (.ok (d :: ds)) := by
  unfold rCons
  rw [h1, bnd_ok, h2, bnd_ok]
theorem g_lst {ds : List D} (h1 : rs ρ = some (.ok ds)) (h2 : ds.length ≤ 1000) : rLst rs ρ = some (.ok (.list ds)) := by
  unfold rLst
  rw [h1, bnd_ok, if_pos h2]
theorem g_tup {ds : List D} (h1 : rs ρ = some (.ok ds)) (h2 : ds.length ≤ 1000) : rTup rs ρ = some (.ok (.tuple ds)) := by rw [rTup_ap, h1, bnd_ok, if_pos h2]
theorem g_op {g : D → D → Option D} {ra rb : RE} {d : D} (a c : D) (h1 : ra ρ = some (.ok a)) (h2 : rb ρ = some (.ok c)) (h3 : g a c = some d) : rOp g ra rb ρ = some (.ok d) := by
  unfold rOp
  rw [h1, bnd_ok, h2, bnd_ok, h3]
  rfl
theorem g_cl {g : List D → Option D} {ds : List D} {d : D} (h : rs ρ = some (.ok ds)) (h2 : g ds = some d) : rCl g rs ρ = some (.ok d) := by
  unfold rCl
  rw [h, bnd_ok, h2]
  rfl
theorem g_call {n : Nat} {m : List D → R D} {ds : List D} {o : R D} (h1 : rs ρ = some (.ok ds)) (h2 : ds.length = n) (h3 : m ds = o) : rCall n m rs ρ = o := by
  rw [rCall_ap, h1, bnd_ok, if_pos h2, h3]
theorem g_tst {b : Bool} (h : r ρ = some (.ok (.bool b))) : rTst r ρ = some (.ok b) := by
  unfold rTst
  rw [h]
  rfl
theorem g_isi {T : String} {d : D} (h : r ρ = some (.ok d)) : rTst (rIsI T r) ρ = some (.ok (isiB T d)) := by
  refine g_tst ?_
  rw [rIsI_ap, h]
  rfl
theorem g_from {xs : List D} (k : Nat) {rk : RE} (h : r ρ = some (.ok (.tuple xs))) (h2 : rk ρ = some (.ok (.int (k : Nat)))) : rSlc r (rPart rk) rNoP ρ = some (.ok (.tuple (xs.drop k))) := by
  simp only [rSlc_ap, h, bnd_ok, rNoP_ap, rPart_ap, h2]
  show okO (some (PyData.tuple (cutL xs (some (k : Int)) none))) = _
  rw [cut_from]
  rfl
theorem g_to {xs : List D} (k : Nat) {rk : RE} (h : r ρ = some (.ok (.tuple xs))) (h2 : rk ρ = some (.ok (.int (k : Nat)))) : rSlc r rNoP (rPart rk) ρ = some (.ok (.tuple (xs.take k))) := by
  simp only [rSlc_ap, h, bnd_ok, rNoP_ap, rPart_ap, h2]
  show okO (some (PyData.tuple (cutL xs none (some (k : Int))))) = _
  rw [cut_to]
  rfl
end
theorem seq_rt {r q : RS} {ρ : En} {d : D} (h : r ρ = some (.rt d)) : sSeq r q ρ = some (.rt d) := by unfold sSeq; rw [h]
theorem g_set {r : RE} {ρ : En} {i : Nat} {d : D} (h : r ρ = some (.ok d)) : sSet i r ρ = some (.nx (ρ.set i (.val d))) := by rw [sSet_ap, h]; rfl
theorem fn_rt {N : Nat} {r : RS} {ds : List D} {d : D} {ρ : En} (h1 : ds.map SV.val ++ List.replicate (N - ds.length) SV.no = ρ) (h2 : r ρ = some (.rt d)) : fnSem N r ds = some (.ok d) := by
  unfold fnSem
  rw [h1, h2]
theorem fnP_rt {N : Nat} {f : Addr} {r : RS} {ds : List D} {d : D} {ρ : En} (h1 : (ds.map SV.val ++ List.replicate (N - ds.length) SV.no).set 2 (.raw (.ref f)) = ρ) (h2 : r ρ = some (.rt d)) : fnSemP N f r ds = some (.ok d) := by
  unfold fnSemP
  rw [h1, h2]
/-! plain things: texts, small ints, tuples of at most W -/
def sd (W : Nat) : Nat → D → Bool
  | _, .str z => decide (z.length ≤ 100) && z.cps.toList.all fun c => decide (c < 128)
  | _, .int i => decide (i.natAbs < 1000)
  | n + 1, .tuple xs => decide (xs.length ≤ W) && xs.all (sd W n)
  | _, _ => false
theorem sd_tup {W n : Nat} {xs : List D} : sd W (n + 1) (.tuple xs) = true ↔ xs.length ≤ W ∧ ∀ x ∈ xs, sd W n x = true := by simp [sd]
theorem sd_good {W : Nat} (hW : W ≤ 100) : ∀ {n : Nat} {d : D}, sd W n d = true → good 100 n d = true
  | n, .str z, h => by simpa [sd, good] using h
  | n, .int i, h => by
    simp only [sd, decide_eq_true_eq] at h
    exact good_int.mpr (by omega)
  | n + 1, .tuple xs, h => by
    obtain ⟨h1, h2⟩ := sd_tup.mp h
    exact good_tup.mpr ⟨by omega, fun x hx => sd_good hW (h2 x hx)⟩
  | 0, .tuple xs, h => by simp [sd] at h
  | _, .none, h => by simp [sd] at h
  | _, .bool _, h => by simp [sd] at h
  | _, .list _, h => by simp [sd] at h
  | _, .dict _, h => by simp [sd] at h
/-! ways into a thing -/
def wzD (p : List Nat) : D := .tuple (p.map fun i => .int (i : Nat))
def Wz : D → List Nat → Prop
  | _, [] => True
  | .tuple xs, i :: p => ∃ x, xs[i]? = some x ∧ Wz x p
  | _, _ => False
theorem wz_nil (d : D) : Wz d [] := by cases d <;> trivial
theorem wz_tup {xs : List D} {i : Nat} {p : List Nat} : Wz (.tuple xs) (i :: p) ↔ ∃ x, xs[i]? = some x ∧ Wz x p := by simp [Wz]
theorem wz_cons {d : D} {i : Nat} {p : List Nat} (h : Wz d (i :: p)) : ∃ xs, d = .tuple xs := by
  cases d with
  | tuple xs => exact ⟨xs, rfl⟩
  | _ => exact absurd h (by simp [Wz])
theorem wz_add (p : List Nat) (i : Nat) (h : p.length ≤ 1000) : addD (wzD p) (.tuple [.int (i : Nat)]) = some (wzD (p ++ [i])) := by
  unfold wzD
  rw [List.map_append]
  exact add_tup (by simp; omega)
theorem wz_shaped (p : List Nat) (h : p.length ≤ 1000) (hb : ∀ i ∈ p, i ≤ 1000) : SeqAt.shaped (wzD p) = true := good_shaped (L := 1000) (n := 1) (good_tup.mpr ⟨by simpa using h, fun x hx => by
  obtain ⟨i, hi, rfl⟩ := List.mem_map.mp hx
  exact good_int.mpr (by have := hb i hi; omega)⟩) (by decide)
def cN (W : Nat) : Nat → Nat
  | 0 => 1
  | n + 1 => 1 + W * cN W n
theorem cN_pos (W : Nat) : ∀ n, 1 ≤ cN W n
  | 0 => Nat.le_refl _
  | n + 1 => by simp [cN]
theorem cN_le {W : Nat} (hW : 1 ≤ W) (n : Nat) : cN W n ≤ cN W (n + 1) := by
  have : cN W n ≤ W * cN W n := Nat.le_mul_of_pos_left _ hW
  simp only [cN]
  omega
/-- the loop over the parts -/
theorem plc_loop {g : List D → R D} {xs : List D} {way : List Nat} {M : Nat} (hw : way.length ≤ 900) (hg : ∀ (i : Nat) (x : D), xs[i]? = some x → ∃ ws : List (List Nat), g [x, wzD (way ++ [i])] = some (.ok (.list (ws.map fun p => wzD (way ++ i :: p)))) ∧ ws.length ≤ M ∧ ∀ p ∈ ws, Wz x p) :
    ∀ (ys : List D) (k : Nat) (acc : List (List Nat)) (s3 s4 : SV), xs.drop k = ys → acc.length + ys.length * M ≤ 1000000 → (∀ p ∈ acc, Wz (.tuple xs) p) →
    ∃ (ws : List (List Nat)) (t3 t4 : SV), forL (rgTup 2 (rgCons (rgName 3) (rgCons (rgName 4) rgNil))) (lp__law_places_in_0 g) (enumL k ys) [.val (.tuple xs), .val (wzD way), .val (.list (acc.map fun p => wzD (way ++ p))), s3, s4] = some (.nx [.val (.tuple xs), .val (wzD way), .val (.list (ws.map fun p => wzD (way ++ p))), t3, t4]) ∧ ws.length ≤ acc.length + ys.length * M ∧ acc.length ≤ ws.length ∧ ∀ p ∈ ws, Wz (.tuple xs) p
  | [], k, acc, s3, s4, _, hl, ha => ⟨acc, s3, s4, rfl, by simp, Nat.le_refl _, ha⟩
  | y :: ys, k, acc, s3, s4, hd, hl, ha => by
    have hk : xs[k]? = some y := by
      have := congrArg (fun l => l[0]?) hd
      simpa using this
    have hd2 : xs.drop (k + 1) = ys := by
      have := congrArg List.tail hd
      simpa [List.tail_drop] using this
    obtain ⟨w1, e1, l1, a1⟩ := hg k y hk
    rw [List.length_cons, Nat.succ_mul] at hl
    have cat : (w1.map fun p => wzD (way ++ k :: p)) = ((w1.map (k :: ·)).map fun p => wzD (way ++ p)) := by rw [List.map_map]; rfl
    obtain ⟨ws, t3, t4, e2, l2, l3, a2⟩ := plc_loop hw hg ys (k + 1) (acc ++ w1.map (k :: ·)) (.val (.int (k : Nat))) (.val y) hd2 (by simp; omega) (fun p hp => by
      rcases List.mem_append.mp hp with hp | hp
      · exact ha p hp
      · obtain ⟨q, hq, rfl⟩ := List.mem_map.mp hp
        exact wz_tup.mpr ⟨y, hk, a1 q hq⟩)
    have st : lp__law_places_in_0 g [.val (.tuple xs), .val (wzD way), .val (.list (acc.map fun p => wzD (way ++ p))), .val (.int (k : Nat)), .val y] = some (.nx [.val (.tuple xs), .val (wzD way), .val (.list ((acc ++ w1.map (k :: ·)).map fun p => wzD (way ++ p))), .val (.int (k : Nat)), .val y]) := by
      unfold lp__law_places_in_0
      refine g_set (d := .list ((acc ++ w1.map (k :: ·)).map fun p => wzD (way ++ p))) (g_op (.list (acc.map fun p => wzD (way ++ p))) (.list (w1.map fun p => wzD (way ++ k :: p))) rfl (g_call (ds := [y, wzD (way ++ [k])]) (g_cons rfl (g_cons (g_op (wzD way) (.tuple [.int (k : Nat)]) rfl (g_tup (g_cons rfl rfl) (by simp)) (wz_add way k (by omega))) rfl)) rfl e1) ?_)
      rw [cat, List.map_append]
      simp only [addD, List.length_map]
      rw [if_pos (by omega)]
    refine ⟨ws, t3, t4, ?_, by rw [List.length_cons, Nat.succ_mul]; simp at l2; omega, by simp at l3; omega, a2⟩
    rw [enumL, forL_cons]
    have rg : rgTup 2 (rgCons (rgName 3) (rgCons (rgName 4) rgNil)) (.tuple [.int (k : Nat), y]) [.val (.tuple xs), .val (wzD way), .val (.list (acc.map fun p => wzD (way ++ p))), s3, s4] = some [.val (.tuple xs), .val (wzD way), .val (.list (acc.map fun p => wzD (way ++ p))), .val (.int (k : Nat)), .val y] := rfl
    rw [rg]
    simp only [st]
    exact e2
theorem plc_sem {W : Nat} (hW : 1 ≤ W) : ∀ (n fuel : Nat) (d : D) (way : List Nat), n < fuel → sd W n d = true → cN W n ≤ 1000000 → way.length + n ≤ 900 → ∃ ws : List (List Nat), m__law_places_in fuel [d, wzD way] = some (.ok (.list (ws.map fun p => wzD (way ++ p)))) ∧ 1 ≤ ws.length ∧ ws.length ≤ cN W n ∧ ∀ p ∈ ws, Wz d p := by
  intro n
  induction n with
  | zero =>
    intro fuel d way hf h hc hw
    obtain ⟨fuel, rfl⟩ : ∃ k, fuel = k + 1 := ⟨fuel - 1, by omega⟩
    refine ⟨[[]], ?_, by simp, by simp [cN], fun p hp => by rw [List.mem_singleton.mp hp]; exact wz_nil d⟩
    have ht : isiB "tuple" d = false := isi_tuple_not fun z e => by rw [e] at h; simp [sd] at h
    rw [m__law_places_in_succ]
    have : b__law_places_in (m__law_places_in fuel) [.val d, .val (wzD way), .no, .no, .no] = some (.rt (.list [wzD way])) := by
      unfold b__law_places_in
      refine set_go (.list [wzD way]) (g_lst (g_cons rfl rfl) (by simp)) ?_
      refine if_no (by rw [g_isi (d := d) rfl, ht]) ?_
      exact ret_go rfl
    refine (fn_rt rfl this).trans ?_
    simp
  | succ n ih =>
    intro fuel d way hf h hc hw
    obtain ⟨fuel, rfl⟩ : ∃ k, fuel = k + 1 := ⟨fuel - 1, by omega⟩
    rw [m__law_places_in_succ]
    by_cases ht : ∃ xs, d = .tuple xs
    · obtain ⟨xs, rfl⟩ := ht
      obtain ⟨h1, h2⟩ := sd_tup.mp h
      have hcn : cN W n ≤ 1000000 := Nat.le_trans (cN_le hW n) hc
      have lM : xs.length * cN W n ≤ W * cN W n := Nat.mul_le_mul_right _ h1
      simp only [cN] at hc
      obtain ⟨ws, t3, t4, e, l1, l2, a⟩ := plc_loop (g := m__law_places_in fuel) (xs := xs) (way := way) (M := cN W n) (by omega) (fun i x hx => by
        obtain ⟨ws, e, _, l, a⟩ := ih fuel x (way ++ [i]) (by omega) (h2 x (List.mem_of_getElem? hx)) hcn (by simp; omega)
        refine ⟨ws, ?_, l, a⟩
        rw [e]
        congr 3
        apply List.map_congr_left
        intro p _
        rw [List.append_assoc]
        rfl) xs 0 [[]] .no .no rfl (by simp; omega) (fun p hp => by rw [List.mem_singleton.mp hp]; exact wz_nil _)
      refine ⟨ws, ?_, by simpa using l2, by simp only [cN]; simp at l1; omega, a⟩
      have : b__law_places_in (m__law_places_in fuel) [.val (.tuple xs), .val (wzD way), .no, .no, .no] = some (.rt (.list (ws.map fun p => wzD (way ++ p)))) := by
        unfold b__law_places_in
        refine set_go (.list [wzD way]) (g_lst (g_cons rfl rfl) (by simp)) ?_
        refine ifT_go (by rw [g_isi (d := .tuple xs) rfl]; rfl) ?_
        refine for_go (enumL 0 xs) (by rw [rEnum_ap, g_cons (d := .tuple xs) (ds := []) rfl rfl]; rfl) (ρ' := [.val (.tuple xs), .val (wzD way), .val (.list (ws.map fun p => wzD (way ++ p))), t3, t4]) ?_ ?_
        · simpa using e
        · exact ret_go rfl
      exact fn_rt rfl this
    · refine ⟨[[]], ?_, by simp, by simp only [cN]; simp, fun p hp => by rw [List.mem_singleton.mp hp]; exact wz_nil d⟩
      have ht : isiB "tuple" d = false := isi_tuple_not fun z e => ht ⟨z, e⟩
      have : b__law_places_in (m__law_places_in fuel) [.val d, .val (wzD way), .no, .no, .no] = some (.rt (.list [wzD way])) := by
        unfold b__law_places_in
        refine set_go (.list [wzD way]) (g_lst (g_cons rfl rfl) (by simp)) ?_
        refine if_no (by rw [g_isi (d := d) rfl, ht]) ?_
        exact ret_go rfl
      refine (fn_rt rfl this).trans ?_
      simp
theorem wz_bound {W : Nat} : ∀ (p : List Nat) {n : Nat} {d : D}, sd W n d = true → Wz d p → ∀ i ∈ p, i < W
  | [], n, d, _, _, i, hi => by cases hi
  | j :: p, n, d, hs, hw, i, hi => by
    obtain ⟨xs, rfl⟩ := wz_cons hw
    obtain ⟨x, hx, hw⟩ := wz_tup.mp hw
    obtain ⟨n, rfl⟩ : ∃ k, n = k + 1 := by
      cases n with
      | zero => simp [sd] at hs
      | succ n => exact ⟨n, rfl⟩
    obtain ⟨h1, h2⟩ := sd_tup.mp hs
    have hj : j < xs.length := (List.getElem?_eq_some_iff.mp hx).1
    rcases List.mem_cons.mp hi with rfl | hi
    · omega
    · exact wz_bound p (h2 x (List.mem_of_getElem? hx)) hw i hi
theorem wz_len {W : Nat} : ∀ (p : List Nat) {n : Nat} {d : D}, sd W n d = true → Wz d p → p.length ≤ n
  | [], n, d, _, _ => Nat.zero_le _
  | j :: p, n, d, hs, hw => by
    obtain ⟨xs, rfl⟩ := wz_cons hw
    obtain ⟨x, hx, hw⟩ := wz_tup.mp hw
    obtain ⟨n, rfl⟩ : ∃ k, n = k + 1 := by
      cases n with
      | zero => simp [sd] at hs
      | succ n => exact ⟨n, rfl⟩
    obtain ⟨h1, h2⟩ := sd_tup.mp hs
    have := wz_len p (h2 x (List.mem_of_getElem? hx)) hw
    simp
    omega
/-! what is put there -/
theorem put_sem {W : Nat} (hW : W ≤ 100) {h : List D → R D} (hh : ∀ (k : Nat) (x : D), sd W k x = true → ∃ x', h [x] = some (.ok x') ∧ good 1000 (k + 1) x' = true) :
    ∀ (p : List Nat) (n fuel : Nat) (d : D), p.length < fuel → p.length ≤ 900 → sd W n d = true → Wz d p → ∃ d', (∀ f, m__law_put_at fuel f h [d, wzD p] = some (.ok d')) ∧ good 1000 (n + 1) d' = true
  | [], n, fuel, d, hf, hp, hs, hw => by
    obtain ⟨fuel, rfl⟩ : ∃ k, fuel = k + 1 := ⟨fuel - 1, by omega⟩
    obtain ⟨x', e, g⟩ := hh n d hs
    refine ⟨x', fun f => ?_, g⟩
    show fnSemP 5 f (b__law_put_at f h (m__law_put_at fuel f h)) [d, wzD []] = _
    have : b__law_put_at f h (m__law_put_at fuel f h) [.val d, .val (wzD []), .raw (.ref f), .no, .no] = some (.rt x') := by
      unfold b__law_put_at
      refine ifT_go (g_tst (g_op (wzD []) (.tuple []) rfl rfl (eqD_self (by decide +kernel)))) ?_
      unfold sSeq
      rw [ret_go (rLam_go (ds := [d]) rfl (g_cons rfl rfl) rfl e)]
    exact fnP_rt rfl this
  | i :: p, n, fuel, d, hf, hp, hs, hw => by
    obtain ⟨fuel, rfl⟩ : ∃ k, fuel = k + 1 := ⟨fuel - 1, by omega⟩
    obtain ⟨xs, rfl⟩ := wz_cons hw
    obtain ⟨x, hx, hw⟩ := wz_tup.mp hw
    obtain ⟨n, rfl⟩ : ∃ k, n = k + 1 := by
      cases n with
      | zero => simp [sd] at hs
      | succ n => exact ⟨n, rfl⟩
    obtain ⟨h1, h2⟩ := sd_tup.mp hs
    have hi : i < xs.length := (List.getElem?_eq_some_iff.mp hx).1
    obtain ⟨x', e, g⟩ := put_sem hW hh p n fuel x (by simp at hf; omega) (by simp at hp; omega) (h2 x (List.mem_of_getElem? hx)) hw
    refine ⟨.tuple (xs.take i ++ [x'] ++ xs.drop (i + 1)), fun f => ?_, good_tup.mpr ⟨by simp; omega, fun y hy => ?_⟩⟩
    · show fnSemP 5 f (b__law_put_at f h (m__law_put_at fuel f h)) [.tuple xs, wzD (i :: p)] = _
      have pl : p.length ≤ 900 := by simp at hp; omega
      have ne : eqD (wzD (i :: p)) (.tuple []) = some (.bool false) := eq_nil_tuple _ (wz_shaped (i :: p) (by omega) fun j hj => by have := wz_bound (i :: p) hs (wz_tup.mpr ⟨x, hx, hw⟩) j hj; omega)
      have : b__law_put_at f h (m__law_put_at fuel f h) [.val (.tuple xs), .val (wzD (i :: p)), .raw (.ref f), .no, .no] = some (.rt (.tuple (xs.take i ++ [x'] ++ xs.drop (i + 1)))) := by
        unfold b__law_put_at
        refine if_no (g_tst (g_op (wzD (i :: p)) (.tuple []) rfl rfl ne)) ?_
        refine set_go (.int (i : Nat)) (g_op (wzD (i :: p)) (.int 0) rfl rfl (ix0 _ _)) ?_
        refine set_go x' (rPut_go (d1 := x) (d2 := wzD p) rfl (g_op (.tuple xs) (.int (i : Nat)) rfl rfl (atI_nat hx)) (by
          have := g_from (r := rVar 1) (rk := rC (.int 1)) (ρ := [.val (.tuple xs), .val (wzD (i :: p)), .raw (.ref f), .val (.int (i : Nat)), .no]) (xs := (i :: p).map fun i => (PyData.int (i : Nat) : D)) 1 rfl rfl
          simpa [wzD] using this) (e f)) ?_
        refine ret_go (g_op (.tuple (xs.take i ++ [x'])) (.tuple (xs.drop (i + 1))) (g_op (.tuple (xs.take i)) (.tuple [x']) (g_to i rfl rfl) (g_tup (g_cons rfl rfl) (by simp)) (add_tup (by simp; omega))) (g_from (i + 1) rfl (g_op (.int (i : Nat)) (.int 1) rfl rfl rfl)) (add_tup (by simp; omega)))
      exact fnP_rt rfl this
    · rcases List.mem_append.mp hy with hy | hy
      · rcases List.mem_append.mp hy with hy | hy
        · exact good_mono (by decide) (by omega) (sd_good hW (h2 y (List.take_subset _ _ hy)))
        · rw [List.mem_singleton.mp hy]; exact g
      · exact good_mono (by decide) (by omega) (sd_good hW (h2 y (List.drop_subset _ _ hy)))
/-! otherwise -/
theorem mod5 (n : Int) : ∃ j : Nat, j < 5 ∧ modD (.int n) (.int 5) = some (.int (j : Nat)) := by
  have h := mod_lt' n (b := 5) (by decide)
  exact ⟨(n % 5).toNat, by omega, by rw [modD_pos (by decide)]; congr 2; omega⟩
theorem ix5 {l : List D} {j : Nat} (h : j < l.length) : ∃ d ∈ l, ixD (.list l) (.int (j : Nat)) = some d := ⟨l[j], List.getElem_mem h, atI_in h⟩
theorem tup1_good {k : Nat} {x : D} (h : good 1000 k x = true) : good 1000 (k + 1) (.tuple [x]) = true := good_tup.mpr ⟨by simp, fun y hy => by rw [List.mem_singleton.mp hy]; exact h⟩
theorem lst1_good {k : Nat} {x : D} (h : good 1000 k x = true) : good 1000 (k + 1) (.list [x]) = true := good_lst.mpr ⟨by simp, fun y hy => by rw [List.mem_singleton.mp hy]; exact h⟩
theorem add_lst {xs ys : List D} (h : xs.length + ys.length ≤ 1000000) : addD (.list xs) (.list ys) = some (.list (xs ++ ys)) := by simp [addD, h]
theorem oth_sem {W : Nat} (hW : W ≤ 100) (num : Int) (k : Nat) (x : D) (h : sd W k x = true) (hi : ∀ i, x = .int i → ∃ z, strD [.int i] = some (.str z) ∧ good 1000 0 (.str z) = true) : ∃ x', m__law_otherwise [x, .int num] = some (.ok x') ∧ good 1000 (k + 1) x' = true := by
  obtain ⟨j, hj, em⟩ := mod5 num
  have g0 := sd_good hW h
  have g1 : good 1000 k x = true := good_mono (by decide) (Nat.le_refl k) g0
  by_cases ht : ∃ xs, x = .tuple xs
  · obtain ⟨xs, rfl⟩ := ht
    obtain ⟨k, rfl⟩ : ∃ q, k = q + 1 := by
      cases k with
      | zero => simp [sd] at h
      | succ n => exact ⟨n, rfl⟩
    obtain ⟨l0, a0⟩ := good_tup.mp g0
    have a1 : ∀ y ∈ xs, good 1000 (k + 1) y = true := fun y hy => good_mono (by decide) (by omega) (a0 y hy)
    obtain ⟨d, hd, ed⟩ := ix5 (l := [.list xs, .list xs, .tuple (xs ++ xs.take 1), .tuple (xs.drop 1), .list [.tuple xs]]) (j := j) (by simpa using hj)
    refine ⟨d, fn_rt (r := b__law_otherwise) rfl ?_, ?_⟩
    · unfold b__law_otherwise
      refine ifT_go (by rw [g_isi (d := .tuple xs) rfl]; rfl) ?_
      have : (sSeq (sSet 2 (rLst (rCons (rCl listD (rCons (rVar 0) rNil)) (rCons (rCl listD (rCons (rVar 0) rNil)) (rCons (rOp addD (rVar 0) (rSlc (rVar 0) rNoP (rPart (rC (.int 1))))) rNil))))) (sRet (rOp ixD (rOp addD (rVar 2) (rLst (rCons (rSlc (rVar 0) (rPart (rC (.int 1))) rNoP) (rCons (rLst (rCons (rVar 0) rNil)) rNil)))) (rOp modD (rVar 1) (rC (.int 5)))))) [.val (.tuple xs), .val (.int num), .no] = some (.rt d) := by
        refine set_go (.list [.list xs, .list xs, .tuple (xs ++ xs.take 1)]) (g_lst (g_cons (g_cl (ds := [.tuple xs]) (g_cons rfl rfl) rfl) (g_cons (g_cl (ds := [.tuple xs]) (g_cons rfl rfl) rfl) (g_cons (g_op (.tuple xs) (.tuple (xs.take 1)) rfl (g_to 1 rfl rfl) (add_tup (by simp; omega))) rfl))) (by simp)) ?_
        exact ret_go (g_op (.list [.list xs, .list xs, .tuple (xs ++ xs.take 1), .tuple (xs.drop 1), .list [.tuple xs]]) (.int (j : Nat)) (g_op (.list [.list xs, .list xs, .tuple (xs ++ xs.take 1)]) (.list [.tuple (xs.drop 1), .list [.tuple xs]]) rfl (g_lst (g_cons (g_from 1 rfl rfl) (g_cons (g_lst (g_cons rfl rfl) (by simp)) rfl)) (by simp)) (add_lst (by simp))) (g_op (.int num) (.int 5) rfl rfl em) ed)
      exact seq_rt this
    · simp only [List.mem_cons, List.not_mem_nil, or_false] at hd
      rcases hd with rfl | rfl | rfl | rfl | rfl
      · exact good_lst.mpr ⟨by omega, a1⟩
      · exact good_lst.mpr ⟨by omega, a1⟩
      · exact good_tup.mpr ⟨by simp; omega, fun y hy => by
          rcases List.mem_append.mp hy with hy | hy
          · exact a1 y hy
          · exact a1 y (List.take_subset _ _ hy)⟩
      · exact good_tup.mpr ⟨by simp; omega, fun y hy => a1 y (List.drop_subset _ _ hy)⟩
      · exact lst1_good g1
  · have it : isiB "tuple" x = false := isi_tuple_not fun z e => ht ⟨z, e⟩
    by_cases hn : ∃ i, x = .int i
    · obtain ⟨i, rfl⟩ := hn
      obtain ⟨z, ez, gz⟩ := hi i rfl
      have hb : i.natAbs < 1000 := by simpa [sd] using h
      obtain ⟨d, hd, ed⟩ := ix5 (l := [.bool true, .none, .str z, .tuple [.int i], .int (-1 - i)]) (j := j) (by simpa using hj)
      refine ⟨d, fn_rt (r := b__law_otherwise) rfl ?_, ?_⟩
      · unfold b__law_otherwise
        refine if_no (by rw [g_isi (d := .int i) rfl, it]) ?_
        refine if_no (by rw [g_isi (d := .int i) rfl]; rfl) ?_
        refine ifT_go (by rw [g_isi (d := .int i) rfl]; rfl) ?_
        have : (sSeq (sSet 2 (rLst (rCons (rC (.bool true)) (rCons (rC .none) (rCons (rCl strD (rCons (rVar 0) rNil)) (rCons (rTup (rCons (rVar 0) rNil)) rNil)))))) (sRet (rOp ixD (rOp addD (rVar 2) (rLst (rCons (rOp subD (rUn negD (rC (.int 1))) (rVar 0)) rNil))) (rOp modD (rVar 1) (rC (.int 5)))))) [.val (.int i), .val (.int num), .no] = some (.rt d) := by
          refine set_go (.list [.bool true, .none, .str z, .tuple [.int i]]) (g_lst (g_cons rfl (g_cons rfl (g_cons (g_cl (ds := [.int i]) (g_cons rfl rfl) ez) (g_cons (g_tup (g_cons rfl rfl) (by simp)) rfl)))) (by simp)) ?_
          exact ret_go (g_op (.list [.bool true, .none, .str z, .tuple [.int i], .int (-1 - i)]) (.int (j : Nat)) (g_op (.list [.bool true, .none, .str z, .tuple [.int i]]) (.list [.int (-1 - i)]) rfl (g_lst (g_cons (g_op (.int (-1)) (.int i) rfl rfl rfl) rfl) (by simp)) (add_lst (by simp))) (g_op (.int num) (.int 5) rfl rfl em) ed)
        exact seq_rt this
      · simp only [List.mem_cons, List.not_mem_nil, or_false] at hd
        rcases hd with rfl | rfl | rfl | rfl | rfl
        · rfl
        · rfl
        · exact good_flat rfl gz
        · exact tup1_good g1
        · exact good_int.mpr (by omega)
    · have hz : ∃ z, x = .str z := by
        cases x with
        | str z => exact ⟨z, rfl⟩
        | int i => exact absurd ⟨i, rfl⟩ hn
        | tuple xs => exact absurd ⟨xs, rfl⟩ ht
        | _ => simp [sd] at h
      obtain ⟨z, rfl⟩ := hz
      obtain ⟨d, hd, ed⟩ := ix5 (l := [.none, .tuple [.str z], .list [.str z], .str (Str.ofString ""), .int 0]) (j := j) (by simpa using hj)
      refine ⟨d, fn_rt (r := b__law_otherwise) rfl ?_, ?_⟩
      · unfold b__law_otherwise
        refine if_no (by rw [g_isi (d := .str z) rfl, it]) ?_
        refine if_no (by rw [g_isi (d := .str z) rfl]; rfl) ?_
        refine if_no (by rw [g_isi (d := .str z) rfl]; rfl) ?_
        exact ret_go (g_op (.list [.none, .tuple [.str z], .list [.str z], .str (Str.ofString ""), .int 0]) (.int (j : Nat)) (g_lst (g_cons rfl (g_cons (g_tup (g_cons rfl rfl) (by simp)) (g_cons (g_lst (g_cons rfl rfl) (by simp)) (g_cons rfl (g_cons rfl rfl))))) (by simp)) (g_op (.int num) (.int 5) rfl rfl em) ed)
      · simp only [List.mem_cons, List.not_mem_nil, or_false] at hd
        rcases hd with rfl | rfl | rfl | rfl | rfl
        · rfl
        · exact tup1_good g1
        · exact lst1_good g1
        · exact good_flat (n := 0) rfl (by decide +kernel)
        · exact good_int.mpr (by decide)
/-- a thing spoilt -/
theorem spo_sem {W n : Nat} (hW : 1 ≤ W ∧ W ≤ 100) (hn : n < 14) (hc : cN W n ≤ 1000000) {d : D} (num : Int) (dn : D) (h : sd W n d = true) (hi : ∀ i : Int, i.natAbs < 1000 → ∃ z, strD [.int i] = some (.str z) ∧ good 1000 0 (.str z) = true) (h0 : 0 ≤ num) :
    ∃ d', m__law_spoilt [d, .int num, dn] = some (.ok d') ∧ good 1000 (n + 1) d' = true := by
  obtain ⟨ws, e, l1, l2, a⟩ := plc_sem hW.1 n 14 d [] hn h hc (by simp; omega)
  simp only [List.nil_append] at e
  have hm := mod_lt' num (b := (ws.length : Int)) (by omega)
  obtain ⟨j, hj⟩ : ∃ j : Nat, num % (ws.length : Int) = (j : Nat) := ⟨(num % (ws.length : Int)).toNat, by omega⟩
  have hjl : j < ws.length := by omega
  have ef : fdivD (.int num) (.int 4096) = some (.int (num / 4096)) := fdivD_pos (by decide) (by decide)
  obtain ⟨d', ep, g⟩ := put_sem hW.2 (h := lamSem lb__law_spoilt num) (fun k x hx => by
    obtain ⟨x', e1, g1⟩ := oth_sem hW.2 (num / 4096) k x hx fun i q => hi i (by subst q; simpa [sd] using hx)
    refine ⟨x', ?_, g1⟩
    unfold lamSem lb__law_spoilt
    exact g_call (ds := [x, .int (num / 4096)]) (g_cons rfl (g_cons (g_op (.int num) (.int 4096) rfl rfl ef) rfl)) rfl e1) ws[j] n 14 d (by have := wz_len ws[j] h (a _ (List.getElem_mem hjl)); omega) (by have := wz_len ws[j] h (a _ (List.getElem_mem hjl)); omega) h (a _ (List.getElem_mem hjl))
  refine ⟨d', fn_rt (r := b__law_spoilt) (ρ := [.val d, .val (.int num), .val dn, .no, .no]) rfl ?_, g⟩
  unfold b__law_spoilt
  refine set_go (.list (ws.map fun p => wzD p)) (g_call (ds := [d, wzD []]) (g_cons rfl (g_cons (g_tup rfl (by simp)) rfl)) rfl e) ?_
  refine set_go (wzD ws[j]) (g_op (.list (ws.map fun p => wzD p)) (.int (j : Nat)) rfl (g_op (.int num) (.int (ws.length : Nat)) rfl ?_ (by rw [modD_pos (by omega), hj])) ?_) ?_
  · rw [rFlat_ap, g_cl (ds := [.list (ws.map fun p => wzD p)]) (d := .int (ws.length : Nat)) (g_cons rfl rfl) ?_]
    · rfl
    · simp [lenD]
  · exact atI_nat (by rw [List.getElem?_map, List.getElem?_eq_getElem hjl]; rfl)
  · exact ret_go (rSp_go (n := num) rfl rfl rfl fun f => ep f)
/-! the law: eight times, each with a script of its own -/
def lsD (ns : List Int) : D := .list (ns.map PyData.int)
theorem cellL_sem (ns : List Int) (k : Nat) : m__law_cell_at [lsD ns, .int (k : Nat)] = some (.ok (.int (cellZ ns k))) := by
  have sl : lenD [lsD ns] = some (.int (ns.length : Nat)) := by simp [lenD, lsD]
  by_cases c : k < ns.length
  · have e : ixD (lsD ns) (.int (k : Nat)) = some (.int (cellZ ns k)) := by
      show atI (ns.map PyData.int) ((k : Nat) : Int) = _
      have h : k < (ns.map PyData.int).length := by rw [List.length_map]; exact c
      rw [atI_in h]
      simp [cellZ, c]
    simp [m__law_cell_at, b__law_cell_at, fnSem_ap, sl, e, show (k : Int) < (ns.length : Int) by omega]
  · simp [m__law_cell_at, b__law_cell_at, fnSem_ap, sl, show ¬ (k : Int) < (ns.length : Int) by omega, cellZ, List.getElem?_eq_none (show ns.length ≤ k by omega)]
theorem mixL_sem (ns : List Int) (k : Nat) : m__law_mixed [lsD ns, .int (k : Nat)] = some (.ok (.int (mixZ ns k))) := by
  have hb := mod_lt' ((cellZ ns k + 7919 * k + 1) * 48271) (b := 2147483647) (by decide)
  have e1 : mulD (.int 7919) (.int (k : Int)) = some (.int (7919 * k)) := mulD_l (by decide)
  have e2 : mulD (.int (cellZ ns k + 7919 * k + 1)) (.int 48271) = some (.int ((cellZ ns k + 7919 * k + 1) * 48271)) := mulD_r (by decide)
  have e3 : mulD (.int (mixB (cellZ ns k) k)) (.int (mixB (cellZ ns k) k)) = some (.int (mixB (cellZ ns k) k * mixB (cellZ ns k) k)) := mulD_l (by unfold mixB; omega)
  have e4 : mulD (.int 7) (.int (mixB (cellZ ns k) k)) = some (.int (7 * mixB (cellZ ns k) k)) := mulD_l (by decide)
  have e5 : modD (.int ((cellZ ns k + 7919 * k + 1) * 48271)) (.int 2147483647) = some (.int (mixB (cellZ ns k) k)) := modD_pos (by decide)
  simp [m__law_mixed, b__law_mixed, fnSem_ap, cellL_sem, e1, e2, e5, e3, e4, modD_pos, mixZ]
theorem lc_ints {ρ : En} {i : Nat} {re : RE} {f : Int → Int} : ∀ {l : List Int}, (∀ a : Int, re (ρ.set i (.val (.int a))) = some (.ok (.int (f a)))) → lcL (rgName i) rYes re ρ (l.map PyData.int) = some ((l.map f).map PyData.int)
  | [], _ => rfl
  | r :: rs, h => by
    have ih := lc_ints (l := rs) h
    have t := h r
    rw [List.map_cons, lcL, rgName_ap]
    simp [t, ih]
theorem turn_ok (once : ∀ ns : List Int, m__law_once [lsD ns] = some (.ok (.bool true))) (ns : List Int) (hl : ns.length ≤ 63) (t : Nat) (s2 : SV) (h2 : noOwn [.val (scriptD ns), .val (.int (t : Nat)), s2] 2 = true) :
    lp_law_0 [.val (scriptD ns), .val (.int (t : Nat)), s2] = some (.nx [.val (scriptD ns), .val (.int (t : Nat)), s2]) := by
  have em : mulD (.int 104729) (.int (t : Nat)) = some (.int (104729 * (t : Nat))) := mulD_l (by decide)
  have lc := lc_ints (ρ := wipeR [.val (scriptD ns), .val (.int (t : Nat)), s2] [2]) (i := 2) (re := rOp addD (rVar 2) (rOp mulD (rC (.int 104729)) (rVar 1))) (f := fun a => a + 104729 * (t : Nat)) (l := ns) fun a => g_op (.int a) (.int (104729 * (t : Nat))) rfl (g_op (.int 104729) (.int (t : Nat)) rfl rfl em) rfl
  have e1 : rLc (rSeq (rVar 0)) (rgName 2) rYes (rOp addD (rVar 2) (rOp mulD (rC (.int 104729)) (rVar 1))) [2] [.val (scriptD ns), .val (.int (t : Nat)), s2] = some (.ok (lsD (ns.map fun a => a + 104729 * (t : Nat)))) := by
    have ei : rSeq (rVar 0) [.val (scriptD ns), .val (.int (t : Nat)), s2] = some (.ok (ns.map PyData.int)) := by
      show okO (some (((ns.map PyData.int).map fun d => (d, d)).map (·.1))) = _
      rw [ro_items]
      rfl
    rw [rLc_ap, ei, bnd_ok, if_pos ⟨by rw [List.length_map]; omega, by simp only [List.all_cons, List.all_nil, Bool.and_true]; exact h2⟩, lc]
    rfl
  have e2 : rOp addD (rLc (rSeq (rVar 0)) (rgName 2) rYes (rOp addD (rVar 2) (rOp mulD (rC (.int 104729)) (rVar 1))) [2]) (rLst (rCons (rVar 1) rNil)) [.val (scriptD ns), .val (.int (t : Nat)), s2] = some (.ok (lsD ((ns.map fun a : Int => a + 104729 * (t : Nat)) ++ [((t : Nat) : Int)]))) := by
    refine g_op _ (.list [.int (t : Nat)]) e1 (g_lst (g_cons rfl rfl) (by simp)) ?_
    unfold lsD
    rw [List.map_append]
    exact add_lst (by simp; omega)
  unfold lp_law_0
  have e3 : rTst (rCall 1 m__law_once (rCons (rOp addD (rLc (rSeq (rVar 0)) (rgName 2) rYes (rOp addD (rVar 2) (rOp mulD (rC (.int 104729)) (rVar 1))) [2]) (rLst (rCons (rVar 1) rNil))) rNil)) [.val (scriptD ns), .val (.int (t : Nat)), s2] = some (.ok true) := g_tst (g_call (ds := [_]) (g_cons e2 rfl) rfl (once _))
  rw [sIf_ap, rNt_ap, e3]
  rfl
theorem law_of (once : ∀ ns : List Int, m__law_once [lsD ns] = some (.ok (.bool true))) (ns : List Int) (hl : ns.length ≤ 63) : m_law [scriptD ns] = some (.ok (.bool true)) := by
  have lp : ∀ (l : List Nat) (s1 : SV), ∃ u1, forL (rgName 1) lp_law_0 (l.map fun j => (PyData.int (j : Nat) : D)) [.val (scriptD ns), s1, .no] = some (.nx [.val (scriptD ns), u1, .no]) := by
    intro l
    induction l with
    | nil => exact fun s1 => ⟨s1, rfl⟩
    | cons t l ih =>
      intro s1
      obtain ⟨u1, e⟩ := ih (.val (.int (t : Nat)))
      refine ⟨u1, ?_⟩
      rw [List.map_cons, forL_cons]
      have rg : rgName 1 (.int (t : Nat)) [.val (scriptD ns), s1, .no] = some [.val (scriptD ns), .val (.int (t : Nat)), .no] := rfl
      rw [rg]
      simp only [turn_ok once ns hl t .no rfl]
      exact e
  obtain ⟨u1, e⟩ := lp (List.range 8) .no
  refine fn_rt (r := b_law) (ρ := [.val (scriptD ns), .no, .no]) rfl ?_
  unfold b_law
  exact for_go _ (range1_go [.int 8] rfl rfl) e (ret_go rfl)
theorem str_small : ∀ i : Fin 1999, (strD [.int ((i.val : Int) - 999)]).any (fun d => match d with | .str z => good 1000 0 (.str z) | _ => false) = true := by decide +kernel
theorem str_ok (i : Int) (h : i.natAbs < 1000) : ∃ z, strD [.int i] = some (.str z) ∧ good 1000 0 (.str z) = true := by
  have q := str_small ⟨(i + 999).toNat, by omega⟩
  have e : (((i + 999).toNat : Nat) : Int) - 999 = i := by omega
  simp only [e] at q
  cases c : strD [.int i] with
  | none => rw [c] at q; cases q
  | some d =>
    rw [c] at q
    cases d with
    | str z => exact ⟨z, rfl, q⟩
    | _ => cases q
end B
set_option Elab.async false
set_option linter.all false
set_option maxRecDepth 100000
namespace B
open PySem L2 DL PyProof.Rows
def edgesL (few : Int) : List D :=
  [.tuple (List.replicate (13 + few).toNat [.tuple [.str (Str.ofString "line"), .str (Str.ofString "a")]]).flatten, .tuple [.tuple [.str (Str.ofString "line"), .str (repS (Str.ofString "x") (11 + few).toNat)]],
   .tuple [.tuple [.str (Str.ofString "open"), .str (cutS (Str.ofString "abcd") none (some (2 + few)) ++ Str.ofString "e")]], .tuple [.tuple [.str (Str.ofString "close"), .str (Str.ofString "")]], .tuple [.tuple [.str (Str.ofString "line"), .str (Str.ofString "a\nb")]],
   .tuple [.tuple [.str (Str.ofString "next"), .str (Str.ofString "a1")]], .tuple [.tuple [.str (Str.ofString "shut"), .str (Str.ofString "a")]], .tuple [.str (repS (Str.ofString "x") (11 + few).toNat)],
   .tuple [.tuple [.str (cutS (Str.ofString "abcd") none (some (2 + few)) ++ Str.ofString "e"), .tuple [.tuple []]]], .tuple [.tuple [.str (Str.ofString "a"), .tuple []]], .tuple [.tuple [.str (Str.ofString "a"), .tuple [.tuple [], .tuple [.str (Str.ofString "b")]]]], .tuple [.tuple [.str (Str.ofString "a"), .tuple [.str (Str.ofString "b")]]]]
theorem edges_good : ∀ few ∈ [(0 : Int), 1, 2], ∀ x ∈ edgesL few, good 1000 5 x = true := by decide +kernel
theorem edges_sem (n : Int) : ∃ es, m__law_edges [.int n] = some (.ok (.list es)) ∧ es.length = 12 ∧ ∀ x ∈ es, good 1000 5 x = true := by
  have h3 := mod_lt' n (b := 3) (by decide)
  have m3 : modD (.int n) (.int 3) = some (.int (n % 3)) := modD_pos (by decide)
  refine ⟨edgesL (n % 3), ?_, rfl, edges_good _ (by simp; omega)⟩
  generalize n % 3 = few at h3 m3
  have lx : (Str.ofString "x").length ≤ 1000 := by decide +kernel
  have a1 : mulD (.tuple [.tuple [.str (Str.ofString "line"), .str (Str.ofString "a")]]) (.int (13 + few)) = some (.tuple (List.replicate (13 + few).toNat [.tuple [.str (Str.ofString "line"), .str (Str.ofString "a")]]).flatten) := by
    simp [mulD]
    omega
  have a2 : mulD (.str (Str.ofString "x")) (.int (11 + few)) = some (.str (repS (Str.ofString "x") (11 + few).toNat)) := by
    simp [mulD, lx]
    omega
  have la : (Str.ofString "abcd").length = 4 := by decide +kernel
  have le : (Str.ofString "e").length = 1 := by decide +kernel
  have a3 : DL.cutD (.str (Str.ofString "abcd")) none (some (2 + few)) = some (.str (cutS (Str.ofString "abcd") none (some (2 + few)))) := by simp [DL.cutD, la]
  have a4 : addD (.str (cutS (Str.ofString "abcd") none (some (2 + few)))) (.str (Str.ofString "e")) = some (.str (cutS (Str.ofString "abcd") none (some (2 + few)) ++ Str.ofString "e")) := by
    have := cutS_length (Str.ofString "abcd") none (some (2 + few))
    simp [addD, le]
    omega
  have ad : ∀ xs ys : List D, xs.length + ys.length ≤ 100 → addD (.list xs) (.list ys) = some (.list (xs ++ ys)) := fun xs ys h => by simp [addD, show xs.length + ys.length ≤ 1000000 by omega]
  simp [m__law_edges, b__law_edges, fnSem_ap, m3, a1, a2, a3, a4, ad, edgesL]
theorem once_turn {n : Nat} (s0 s1 s2 s3 s5 : SV) (one : D) (h : good 1000 n one = true) (hn : n ≤ 18) : lp__law_once_0 [s0, s1, s2, s3, .val one, s5] = some (.nx [s0, s1, s2, s3, .val one, .val (.bool (treeB 20 one))]) := by
  have e1 := are_rows_sem one h (by omega)
  have e2 := law_are_rows_sem one h (by omega)
  have e3 := is_tree_sem n one 20 20 h (by omega) (by omega) (by omega)
  have e4 := law_is_tree_sem n one 20 20 h (by omega) (by omega) (by omega)
  have nb : ∀ b : Bool, neD (.bool b) (.bool b) = some (.bool false) := fun b => by cases b <;> rfl
  have ib : ∀ b : Bool, isiB "bool" (.bool b) = true := fun b => by simp [isiB, tyName]
  simp [lp__law_once_0, e1, e2, e3, e4, nb, ib]
theorem once_loop : ∀ (ds : List D) (s0 s1 s2 s3 s4 s5 : SV), (∀ d ∈ ds, ∃ n, n ≤ 18 ∧ good 1000 n d = true) → ∃ ρ, forL (rgName 4) lp__law_once_0 ds [s0, s1, s2, s3, s4, s5] = some (.nx ρ)
  | [], s0, s1, s2, s3, s4, s5, _ => ⟨_, rfl⟩
  | d :: ds, s0, s1, s2, s3, s4, s5, h => by
    obtain ⟨n, hn, g⟩ := h d List.mem_cons_self
    obtain ⟨ρ, e⟩ := once_loop ds s0 s1 s2 s3 (.val d) (.val (.bool (treeB 20 d))) fun x hx => h x (List.mem_cons_of_mem _ hx)
    refine ⟨ρ, ?_⟩
    simp only [forL_cons, rgName_ap, List.set_cons_succ, List.set_cons_zero, once_turn _ _ _ _ _ d g hn]
    exact e
theorem sd_texts : ∀ s ∈ treeTexts ++ nameTexts ++ lineTexts ++ [sLine, sOpen, sNext, sClose], sd 1 0 (.str s) = true := by decide +kernel
theorem sd_str {W n : Nat} {s : Str} (h : s ∈ treeTexts ++ nameTexts ++ lineTexts ++ [sLine, sOpen, sNext, sClose]) : sd W n (.str s) = true := by
  have := sd_texts s h
  simpa [sd] using this
mutual
theorem Tr.sd_of : ∀ (t : Tr) (d : Nat), t.ok d → ∀ x ∈ t.ds, sd 3 (3 * d) x = true
  | .nil, d, _, x, h => by simp [Tr.ds] at h
  | .cons l t, d, o, x, h => by
    simp only [Tr.ok] at o
    simp only [Tr.ds, List.mem_cons] at h
    rcases h with rfl | h
    · exact Lf.sd_of l d o.1
    · exact Tr.sd_of t d o.2 x h
theorem Lf.sd_of : ∀ (l : Lf) (d : Nat), l.ok d → sd 3 (3 * d) l.d = true
  | .txt s, d, o => by
    simp only [Lf.ok] at o
    simp only [Lf.d]
    exact sd_str (by simp [o])
  | .lt nm ps, d, o => by
    simp only [Lf.ok] at o
    obtain ⟨o1, o2, o3, o4⟩ := o
    obtain ⟨d, rfl⟩ : ∃ k, d = k + 1 := ⟨d - 1, by omega⟩
    have pq := Ps.sd_of ps d o4
    simp only [Lf.d]
    have e : 3 * (d + 1) = 3 * d + 1 + 1 + 1 := by omega
    rw [e]
    have lp := Ps.len_ds ps
    refine sd_tup.mpr ⟨by simp, fun x hx => ?_⟩
    simp at hx
    rcases hx with rfl | rfl
    · exact sd_str (by simp [o1])
    · exact sd_tup.mpr ⟨by omega, pq⟩
theorem Ps.sd_of : ∀ (ps : Ps) (d : Nat), ps.ok d → ∀ x ∈ ps.ds, sd 3 (3 * d + 1) x = true
  | .one t, d, o, x, h => by
    simp only [Ps.ok] at o
    simp only [Ps.ds, List.mem_singleton] at h
    subst h
    have l := Tr.len_ds t
    exact sd_tup.mpr ⟨by omega, Tr.sd_of t d o.2⟩
  | .cons t ps, d, o, x, h => by
    simp only [Ps.ok] at o
    simp only [Ps.ds, List.mem_cons] at h
    rcases h with rfl | h
    · have l := Tr.len_ds t
      exact sd_tup.mpr ⟨by omega, Tr.sd_of t d o.1.2⟩
    · exact Ps.sd_of ps d o.2 x h
end
theorem rows_sd {rs : List D} (h : ∀ r ∈ rs, RowIn r) (l : rs.length ≤ 14) : sd 14 2 (.tuple rs) = true := sd_tup.mpr ⟨l, fun r hr => by
  rcases h r hr with ⟨t, ht, rfl⟩ | ⟨w, hw, t, ht, rfl⟩
  · refine sd_tup.mpr ⟨by simp, fun x hx => ?_⟩
    simp only [List.mem_cons, List.not_mem_nil, or_false] at hx
    rcases hx with rfl | rfl
    · exact sd_str (by simp)
    · exact sd_str (by simp [ht])
  · refine sd_tup.mpr ⟨by simp, fun x hx => ?_⟩
    simp only [List.mem_cons, List.not_mem_nil, or_false] at hx
    rcases hx with rfl | rfl
    · refine sd_str ?_
      simp only [List.mem_cons, List.not_mem_nil, or_false] at hw
      simp only [List.mem_append, List.mem_cons, List.not_mem_nil, or_false]
      rcases hw with rfl | rfl | rfl
      · exact .inr (.inr (.inl rfl))
      · exact .inr (.inr (.inr (.inl rfl)))
      · exact .inr (.inr (.inr (.inr rfl)))
    · exact sd_str (by simp [ht])⟩
theorem once_true (ns : List Int) : m__law_once [lsD ns] = some (.ok (.bool true)) := by
  have x0 : m__law_mixed [lsD ns, .int 0] = some (.ok (.int (mixZ ns 0))) := mixL_sem ns 0
  have x1 : m__law_mixed [lsD ns, .int 1] = some (.ok (.int (mixZ ns 1))) := mixL_sem ns 1
  have x2 : m__law_mixed [lsD ns, .int 2] = some (.ok (.int (mixZ ns 2))) := mixL_sem ns 2
  have x3 : m__law_mixed [lsD ns, .int 3] = some (.ok (.int (mixZ ns 3))) := mixL_sem ns 3
  have x4 : m__law_mixed [lsD ns, .int 4] = some (.ok (.int (mixZ ns 4))) := mixL_sem ns 4
  have x5 : m__law_mixed [lsD ns, .int 5] = some (.ok (.int (mixZ ns 5))) := mixL_sem ns 5
  obtain ⟨rs, er, lr, pr⟩ : ∃ rs, m__law_rows [.int (mixZ ns 1), .int 14] = some (.ok (.tuple rs)) ∧ rs.length ≤ 14 ∧ ∀ r ∈ rs, RowIn r := rows_sem (mixZ ns 1) 14 (by decide)
  obtain ⟨t, et, lt, ot⟩ : ∃ t : Tr, m__law_tree 12 [.int (mixZ ns 2), .int 3] = some (.ok (.tuple t.ds)) ∧ t.len ≤ 3 ∧ t.ok 3 := tree_sem 3 12 (by decide) (mixZ ns 2)
  obtain ⟨es, ee, le, ge⟩ := edges_sem (mixZ ns 5)
  have gr := rows_good pr (by omega)
  have gt := tree_good ot lt
  have gr' := good_mono (L' := 1000) (by decide) (Nat.le_refl 2) gr
  have gt' := good_mono (L' := 1000) (by decide) (Nat.le_refl 10) gt.1
  have e1 := are_rows_sem _ gr' (by decide)
  have e2 : rowsD (.tuple rs) = true := by
    simp only [rowsD, Bool.and_eq_true, decide_eq_true_eq]
    exact ⟨lr, List.all_eq_true.mpr fun r hr => (rowIn_good (pr r hr)).2⟩
  have e3 := is_tree_sem 10 _ 20 20 gt' (by decide) (by decide) (by decide)
  have e4 : treeB 20 (.tuple t.ds) = true := treeB_mono 4 20 _ (by decide) gt.2
  rw [e2] at e1
  rw [e4] at e3
  have m3 : modD (.int (mixZ ns 0)) (.int 3) = some (.int (mixZ ns 0 % 3)) := modD_pos (by decide)
  have d16 : fdivD (.int (mixZ ns 0)) (.int 16) = some (.int (mixZ ns 0 / 16)) := fdivD_pos (by decide) (by decide)
  have d64 : fdivD (.int (mixZ ns 0)) (.int 64) = some (.int (mixZ ns 0 / 64)) := fdivD_pos (by decide) (by decide)
  have q3 : modD (.int (mixZ ns 0 / 16)) (.int 3) = some (.int (mixZ ns 0 / 16 % 3)) := modD_pos (by decide)
  have q6 : modD (.int (mixZ ns 0 / 64)) (.int 6) = some (.int (mixZ ns 0 / 64 % 6)) := modD_pos (by decide)
  have nt : notD (.bool true) (.bool true) = some (.bool false) := rfl
  have ad : ∀ a b : D, addD (.list es) (.list [a, b]) = some (.list (es ++ [a, b])) := fun a b => by simp [addD, le]
  have go : ∀ a b : D, (∃ n, n ≤ 18 ∧ good 1000 n a = true) → (∃ n, n ≤ 18 ∧ good 1000 n b = true) → ∃ ρ, forL (rgName 4) lp__law_once_0 (es ++ [a, b]) [.val (lsD ns), .val (.int (mixZ ns 0)), .val a, .val b, .no, .no] = some (.nx ρ) := fun a b ha hb =>
    once_loop _ _ _ _ _ _ _ fun d hd => by
      rcases List.mem_append.mp hd with hd | hd
      · exact ⟨5, by decide, ge d hd⟩
      · simp at hd
        rcases hd with rfl | rfl
        · exact ha
        · exact hb
  have c3 : cN 3 10 ≤ 1000000 := by decide +kernel
  have c14 : cN 14 2 ≤ 1000000 := by decide +kernel
  have ltd := Tr.len_ds t
  have st : sd 3 10 (.tuple t.ds) = true := sd_tup.mpr ⟨by omega, Tr.sd_of t 3 ot⟩
  by_cases c : 0 < mixZ ns 0 % 3
  · obtain ⟨a, ea, ga⟩ := spo_sem (W := 14) (n := 2) ⟨by decide, by decide⟩ (by decide) c14 (mixZ ns 3) (.int (mixZ ns 0 / 16 % 3)) (rows_sd pr lr) str_ok (mixZ_pos ns 3).1
    obtain ⟨b, eb, gb⟩ := spo_sem (W := 3) (n := 10) ⟨by decide, by decide⟩ (by decide) c3 (mixZ ns 4) (.int (mixZ ns 0 / 64 % 6)) st str_ok (mixZ_pos ns 4).1
    obtain ⟨ρ, el⟩ := go a b ⟨3, by decide, ga⟩ ⟨11, by decide, gb⟩
    simp [m__law_once, b__law_once, fnSem_ap, x0, x1, x2, x3, x4, x5, er, et, e1, e3, nt, m3, c, d16, q3, d64, q6, ea, eb, ee, ad, el]
  · obtain ⟨ρ, el⟩ := go (.tuple rs) (.tuple t.ds) ⟨2, by decide, gr'⟩ ⟨10, by decide, gt'⟩
    simp [m__law_once, b__law_once, fnSem_ap, x0, x1, x2, x3, x4, x5, er, et, e1, e3, nt, m3, c, ee, ad, el]
theorem law_true (ns : List Int) (h : ns.length ≤ 63) : m_law [scriptD ns] = some (.ok (.bool true)) := law_of once_true ns h
end B
set_option Elab.async false
set_option linter.all false
set_option maxRecDepth 100000
namespace B
open PySem L2 DL PyProof.Rows LamX NdefX
def topS (i : Nat) : Stmt := PySem.Challenge.pw_brokenparts_k09_lists_anywhere.main.body.getD i (.Pass ⟨0, 0, 0, 0⟩)
def clsS (st : Stmt) (j : Nat) : Stmt := match st with
  | .ClassDef _ _ _ body _ _ _ _ _ _ _ => body.getD j (.Pass ⟨0, 0, 0, 0⟩)
  | _ => .Pass ⟨0, 0, 0, 0⟩
abbrev s_is_name : Stmt := topS 10
abbrev N_is_name : List Str := ["thing", "sign"]
theorem sc_is_name : FnScope N_is_name ["thing"] (defScope s_is_name) := ⟨rfl, rfl, rfl, by decide +kernel, rfl, by decide +kernel, by decide +kernel⟩
abbrev s_is_line : Stmt := topS 11
abbrev N_is_line : List Str := ["thing", "sign"]
theorem sc_is_line : FnScope N_is_line ["thing"] (defScope s_is_line) := ⟨rfl, rfl, rfl, by decide +kernel, rfl, by decide +kernel, by decide +kernel⟩
abbrev s_is_border : Stmt := topS 12
abbrev N_is_border : List Str := ["thing"]
theorem sc_is_border : FnScope N_is_border ["thing"] (defScope s_is_border) := ⟨rfl, rfl, rfl, by decide +kernel, rfl, by decide +kernel, by decide +kernel⟩
abbrev s_is_row : Stmt := topS 13
abbrev N_is_row : List Str := ["thing"]
theorem sc_is_row : FnScope N_is_row ["thing"] (defScope s_is_row) := ⟨rfl, rfl, rfl, by decide +kernel, rfl, by decide +kernel, by decide +kernel⟩
abbrev s_are_rows : Stmt := topS 14
abbrev N_are_rows : List Str := ["thing", "part"]
theorem sc_are_rows : FnScope N_are_rows ["thing"] (defScope s_are_rows) := ⟨rfl, rfl, rfl, by decide +kernel, rfl, by decide +kernel, by decide +kernel⟩
abbrev s_is_tree : Stmt := topS 15
abbrev N_is_tree : List Str := ["thing", "part"]
theorem sc_is_tree : FnScope N_is_tree ["thing"] (defScope s_is_tree) := ⟨rfl, rfl, rfl, by decide +kernel, rfl, by decide +kernel, by decide +kernel⟩
abbrev s_is_letter : Stmt := topS 16
abbrev N_is_letter : List Str := ["thing", "part"]
theorem sc_is_letter : FnScope N_is_letter ["thing"] (defScope s_is_letter) := ⟨rfl, rfl, rfl, by decide +kernel, rfl, by decide +kernel, by decide +kernel⟩
abbrev s__law_cell_at : Stmt := topS 18
abbrev N__law_cell_at : List Str := ["script", "k"]
theorem sc__law_cell_at : FnScope N__law_cell_at ["script", "k"] (defScope s__law_cell_at) := ⟨rfl, rfl, rfl, by decide +kernel, rfl, by decide +kernel, by decide +kernel⟩
abbrev s__law_mixed : Stmt := topS 19
abbrev N__law_mixed : List Str := ["script", "k", "drawn"]
theorem sc__law_mixed : FnScope N__law_mixed ["script", "k"] (defScope s__law_mixed) := ⟨rfl, rfl, rfl, by decide +kernel, rfl, by decide +kernel, by decide +kernel⟩
abbrev s__law_drawn : Stmt := topS 20
abbrev N__law_drawn : List Str := ["number", "k", "drawn"]
theorem sc__law_drawn : FnScope N__law_drawn ["number", "k"] (defScope s__law_drawn) := ⟨rfl, rfl, rfl, by decide +kernel, rfl, by decide +kernel, by decide +kernel⟩
abbrev s__law_row : Stmt := topS 21
abbrev N__law_row : List Str := ["number", "kinds", "word"]
theorem sc__law_row : FnScope N__law_row ["number", "kinds"] (defScope s__law_row) := ⟨rfl, rfl, rfl, by decide +kernel, rfl, by decide +kernel, by decide +kernel⟩
abbrev s__law_rows : Stmt := topS 22
abbrev N__law_rows : List Str := ["number", "most", "kinds", "k"]
theorem sc__law_rows : FnScope N__law_rows ["number", "most"] (defScope s__law_rows) := ⟨rfl, rfl, rfl, by decide +kernel, rfl, by decide +kernel, by decide +kernel⟩
abbrev s__law_tree : Stmt := topS 23
abbrev N__law_tree : List Str := ["number", "down", "got_ones", "k", "drawn", "parts", "j"]
theorem sc__law_tree : FnScope N__law_tree ["number", "down"] (defScope s__law_tree) := ⟨rfl, rfl, rfl, by decide +kernel, rfl, by decide +kernel, by decide +kernel⟩
abbrev s__law_is_name : Stmt := topS 24
abbrev N__law_is_name : List Str := ["thing", "sign"]
theorem sc__law_is_name : FnScope N__law_is_name ["thing"] (defScope s__law_is_name) := ⟨rfl, rfl, rfl, by decide +kernel, rfl, by decide +kernel, by decide +kernel⟩
abbrev s__law_is_text : Stmt := topS 25
abbrev N__law_is_text : List Str := ["thing", "sign"]
theorem sc__law_is_text : FnScope N__law_is_text ["thing"] (defScope s__law_is_text) := ⟨rfl, rfl, rfl, by decide +kernel, rfl, by decide +kernel, by decide +kernel⟩
abbrev s__law_are_rows : Stmt := topS 26
abbrev N__law_are_rows : List Str := ["thing", "row", "good"]
theorem sc__law_are_rows : FnScope N__law_are_rows ["thing"] (defScope s__law_are_rows) := ⟨rfl, rfl, rfl, by decide +kernel, rfl, by decide +kernel, by decide +kernel⟩
abbrev s__law_is_tree : Stmt := topS 27
abbrev N__law_is_tree : List Str := ["thing", "leaf", "part"]
theorem sc__law_is_tree : FnScope N__law_is_tree ["thing"] (defScope s__law_is_tree) := ⟨rfl, rfl, rfl, by decide +kernel, rfl, by decide +kernel, by decide +kernel⟩
abbrev s__law_edges : Stmt := topS 28
abbrev N__law_edges : List Str := ["number", "few", "got_ones"]
theorem sc__law_edges : FnScope N__law_edges ["number"] (defScope s__law_edges) := ⟨rfl, rfl, rfl, by decide +kernel, rfl, by decide +kernel, by decide +kernel⟩
abbrev s__law_places_in : Stmt := topS 29
abbrev N__law_places_in : List Str := ["bent_one", "bent_way", "bent_ways", "bent_at", "bent_part"]
theorem sc__law_places_in : FnScope N__law_places_in ["bent_one", "bent_way"] (defScope s__law_places_in) := ⟨rfl, rfl, rfl, by decide +kernel, rfl, by decide +kernel, by decide +kernel⟩
abbrev s__law_put_at : Stmt := topS 30
abbrev N__law_put_at : List Str := ["bent_one", "bent_way", "bent_by", "bent_at", "bent_part"]
theorem sc__law_put_at : FnScope N__law_put_at ["bent_one", "bent_way", "bent_by"] (defScope s__law_put_at) := ⟨rfl, rfl, rfl, by decide +kernel, rfl, by decide +kernel, by decide +kernel⟩
abbrev s__law_otherwise : Stmt := topS 31
abbrev N__law_otherwise : List Str := ["bent_one", "bent_number", "bent_some"]
theorem sc__law_otherwise : FnScope N__law_otherwise ["bent_one", "bent_number"] (defScope s__law_otherwise) := ⟨rfl, rfl, rfl, by decide +kernel, rfl, by decide +kernel, by decide +kernel⟩
abbrev s__law_spoilt : Stmt := topS 32
abbrev N__law_spoilt : List Str := ["thing", "number", "down", "bent_ways", "bent_way"]
theorem sc__law_spoilt : FnScope N__law_spoilt ["thing", "number", "down"] (defScope s__law_spoilt) := ⟨rfl, rfl, rfl, by decide +kernel, rfl, by decide +kernel, by decide +kernel⟩
abbrev s__law_once : Stmt := topS 33
abbrev N__law_once : List Str := ["script", "number", "rows", "tree", "one", "got"]
theorem sc__law_once : FnScope N__law_once ["script"] (defScope s__law_once) := ⟨rfl, rfl, rfl, by decide +kernel, rfl, by decide +kernel, by decide +kernel⟩
abbrev s_law : Stmt := topS 34
abbrev N_law : List Str := ["script", "bent_turn", "bent_cell"]
theorem sc_law : FnScope N_law ["script"] (defScope s_law) := ⟨rfl, rfl, rfl, by decide +kernel, rfl, by decide +kernel, by decide +kernel⟩
section
variable {P : Program} {w : World} {K : PySem.W.Frag} {mg : Str → Option Value} {base : Heap} {exc : Cn → Value}
set_option maxHeartbeats 4000000
theorem ok_is_name {f_is_name : Addr} {fd_is_name : FuncData} (F_is_name : Fun K "is_name" "is_name" s_is_name f_is_name fd_is_name) (m_is_name' : mg "is_name" = some (.ref f_is_name)) (b_is_name' : Binds K fd_is_name ["thing"] []) (z_all : mg "all" = none) (z_isinstance : mg "isinstance" = none) (z_len : mg "len" = none) (z_str : mg "str" = none) (c_LETTERS : GlobD K mg "LETTERS" k_LETTERS) (c_MOST_NAME : GlobD K mg "MOST_NAME" k_MOST_NAME) : Known P w K mg base exc 1 "is_name" 1 m_is_name :=
  fn_ok (k := 0) (N := N_is_name) (r := b_is_name) F_is_name m_is_name' b_is_name' sc_is_name rfl (fun cdv A outer s H E B hr => by
      have tk : Takes (cxOf (L2.CX P w) P w K mg base N_is_name "is_name" (defScope s_is_name) f_is_name cdv A outer s H E) (fun cls d _ H => E cls d H) := takes_of rfl rfl rfl rfl
      have px : Passes (L2.CX P w) (cxOf (L2.CX P w) P w K mg base N_is_name "is_name" (defScope s_is_name) f_is_name cdv A outer s H E) E := passD tk
      have po : PassesOwn (model P w) (A.deeper (envOfC "is_name" (defScope s_is_name) s.heap.objs.size f_is_name cdv)) (envOfC "is_name" (defScope s_is_name) s.heap.objs.size f_is_name cdv) (cxOf (L2.CX P w) P w K mg base N_is_name "is_name" (defScope s_is_name) f_is_name cdv A outer s H E).xe := passes_of rfl
      exact ⟨_, (dss_one (ds_ret (fr := true) (de_and (fs := true) (de_isi (fs := true) isi_str z_isinstance z_str (by decide +kernel) (de_var 0)) (de_and (fs := true) (de_chain os_cmp op_leQ os_cmp op_leQ de_int (de_len (fr := true) z_len (da_cons (de_var 0) da_nil)) (de_g c_MOST_NAME)) (de_one (de_callB cs_all (cr_all rfl) z_all (by decide +kernel) (da_cons (de_lc [("sign", 1)] rfl sc_is_name.nd (di_seq (de_var 0)) (blkOk_by (N := N_is_name) (sc := defScope s_is_name) (by decide +kernel)) (fun _ _ _ _ _ _ => ⟨_, (dg_name 1 sc_is_name.nd)⟩) (fun _ _ _ _ _ _ => ⟨_, dts_nil⟩) (fun _ _ _ _ _ _ => ⟨_, (de_cmp os_in (op_inQ (hu65 hr)) (de_var 1) (de_g c_LETTERS) (by rfl))⟩)) da_nil)))))))⟩)
theorem ok_is_line {f_is_line : Addr} {fd_is_line : FuncData} (F_is_line : Fun K "is_line" "is_line" s_is_line f_is_line fd_is_line) (m_is_line' : mg "is_line" = some (.ref f_is_line)) (b_is_line' : Binds K fd_is_line ["thing"] []) (z_all : mg "all" = none) (z_isinstance : mg "isinstance" = none) (z_len : mg "len" = none) (z_str : mg "str" = none) (c_MOST_LINE : GlobD K mg "MOST_LINE" k_MOST_LINE) : Known P w K mg base exc 1 "is_line" 1 m_is_line :=
  fn_ok (k := 0) (N := N_is_line) (r := b_is_line) F_is_line m_is_line' b_is_line' sc_is_line rfl (fun cdv A outer s H E B hr => by
      have tk : Takes (cxOf (L2.CX P w) P w K mg base N_is_line "is_line" (defScope s_is_line) f_is_line cdv A outer s H E) (fun cls d _ H => E cls d H) := takes_of rfl rfl rfl rfl
      have px : Passes (L2.CX P w) (cxOf (L2.CX P w) P w K mg base N_is_line "is_line" (defScope s_is_line) f_is_line cdv A outer s H E) E := passD tk
      have po : PassesOwn (model P w) (A.deeper (envOfC "is_line" (defScope s_is_line) s.heap.objs.size f_is_line cdv)) (envOfC "is_line" (defScope s_is_line) s.heap.objs.size f_is_line cdv) (cxOf (L2.CX P w) P w K mg base N_is_line "is_line" (defScope s_is_line) f_is_line cdv A outer s H E).xe := passes_of rfl
      exact ⟨_, (dss_one (ds_ret (fr := true) (de_and (fs := true) (de_isi (fs := true) isi_str z_isinstance z_str (by decide +kernel) (de_var 0)) (de_and (fs := true) (de_cmp os_cmp op_leQ (de_len (fr := true) z_len (da_cons (de_var 0) da_nil)) (de_g c_MOST_LINE) (nomark _)) (de_one (de_callB cs_all (cr_all rfl) z_all (by decide +kernel) (da_cons (de_lc [("sign", 1)] rfl sc_is_line.nd (di_seq (de_var 0)) (blkOk_by (N := N_is_line) (sc := defScope s_is_line) (by decide +kernel)) (fun _ _ _ _ _ _ => ⟨_, (dg_name 1 sc_is_line.nd)⟩) (fun _ _ _ _ _ _ => ⟨_, dts_nil⟩) (fun _ _ _ _ _ _ => ⟨_, (de_chain os_cmp op_leQ os_cmp op_leQ de_str (de_var 1) de_str)⟩)) da_nil)))))))⟩)
theorem ok_is_border {f_is_border : Addr} {fd_is_border : FuncData} (F_is_border : Fun K "is_border" "is_border" s_is_border f_is_border fd_is_border) (m_is_border' : mg "is_border" = some (.ref f_is_border)) (b_is_border' : Binds K fd_is_border ["thing"] []) (G_is_name : Known P w K mg base exc 1 "is_name" 1 m_is_name) (z_isinstance : mg "isinstance" = none) (z_len : mg "len" = none) (z_str : mg "str" = none) (z_tuple : mg "tuple" = none) (c_BORDERS : GlobD K mg "BORDERS" k_BORDERS) : Known P w K mg base exc 2 "is_border" 1 m_is_border :=
  fn_ok (k := 1) (N := N_is_border) (r := b_is_border) F_is_border m_is_border' b_is_border' sc_is_border rfl (fun cdv A outer s H E B hr => by
      have tk : Takes (cxOf (L2.CX P w) P w K mg base N_is_border "is_border" (defScope s_is_border) f_is_border cdv A outer s H E) (fun cls d _ H => E cls d H) := takes_of rfl rfl rfl rfl
      have px : Passes (L2.CX P w) (cxOf (L2.CX P w) P w K mg base N_is_border "is_border" (defScope s_is_border) f_is_border cdv A outer s H E) E := passD tk
      have po : PassesOwn (model P w) (A.deeper (envOfC "is_border" (defScope s_is_border) s.heap.objs.size f_is_border cdv)) (envOfC "is_border" (defScope s_is_border) s.heap.objs.size f_is_border cdv) (cxOf (L2.CX P w) P w K mg base N_is_border "is_border" (defScope s_is_border) f_is_border cdv A outer s H E).xe := passes_of rfl
      exact ⟨_, (dss_cons (ds_if (DW.dt (dw_or (dt_not (dt_val (fr := true) (de_isi (fs := true) isi_tuple z_isinstance z_tuple (by decide +kernel) (de_var 0)))) (dw_or (dt_cmp (fr := true) os_ne (op_neD (hu64 hr)) (de_len (fr := true) z_len (da_cons (de_var 0) da_nil)) de_int (nomark _)) (dw_or1 (dt_not (dt_val (fr := true) (de_isi (fs := true) isi_str z_isinstance z_str (by decide +kernel) (de_ix (de_var 0) de_int)))))))) (dss_one (ds_ret (fr := true) de_bl)) dss_nil) (dss_one (ds_ret (fr := true) (de_and (fs := true) (de_cmp os_in (op_inQ (hu65 hr)) (de_ix (de_var 0) de_int) (de_g c_BORDERS) (by rfl)) (de_one (de_call G_is_name (hr.mono (by decide)) px (da_cons (de_ix (de_var 0) de_int) da_nil)))))))⟩)
theorem ok_is_row {f_is_row : Addr} {fd_is_row : FuncData} (F_is_row : Fun K "is_row" "is_row" s_is_row f_is_row fd_is_row) (m_is_row' : mg "is_row" = some (.ref f_is_row)) (b_is_row' : Binds K fd_is_row ["thing"] []) (G_is_border : Known P w K mg base exc 2 "is_border" 1 m_is_border) (G_is_line : Known P w K mg base exc 1 "is_line" 1 m_is_line) (z_isinstance : mg "isinstance" = none) (z_len : mg "len" = none) (z_tuple : mg "tuple" = none) (c_LINE : GlobD K mg "LINE" k_LINE) : Known P w K mg base exc 3 "is_row" 1 m_is_row :=
  fn_ok (k := 2) (N := N_is_row) (r := b_is_row) F_is_row m_is_row' b_is_row' sc_is_row rfl (fun cdv A outer s H E B hr => by
      have tk : Takes (cxOf (L2.CX P w) P w K mg base N_is_row "is_row" (defScope s_is_row) f_is_row cdv A outer s H E) (fun cls d _ H => E cls d H) := takes_of rfl rfl rfl rfl
      have px : Passes (L2.CX P w) (cxOf (L2.CX P w) P w K mg base N_is_row "is_row" (defScope s_is_row) f_is_row cdv A outer s H E) E := passD tk
      have po : PassesOwn (model P w) (A.deeper (envOfC "is_row" (defScope s_is_row) s.heap.objs.size f_is_row cdv)) (envOfC "is_row" (defScope s_is_row) s.heap.objs.size f_is_row cdv) (cxOf (L2.CX P w) P w K mg base N_is_row "is_row" (defScope s_is_row) f_is_row cdv A outer s H E).xe := passes_of rfl
      exact ⟨_, (dss_cons (ds_if (dt_val (fr := true) (de_call G_is_border (hr.mono (by decide)) px (da_cons (de_var 0) da_nil))) (dss_one (ds_ret (fr := true) de_bl)) dss_nil) (dss_one (ds_ret (fr := true) (de_and (fs := true) (de_isi (fs := true) isi_tuple z_isinstance z_tuple (by decide +kernel) (de_var 0)) (de_and (fs := true) (de_cmp os_eq (op_eqD (hu64 hr)) (de_len (fr := true) z_len (da_cons (de_var 0) da_nil)) de_int (nomark _)) (de_and (fs := true) (de_cmp os_eq (op_eqD (hu64 hr)) (de_ix (de_var 0) de_int) (de_g c_LINE) (nomark _)) (de_one (de_call G_is_line (hr.mono (by decide)) px (da_cons (de_ix (de_var 0) de_int) da_nil)))))))))⟩)
theorem ok_are_rows {f_are_rows : Addr} {fd_are_rows : FuncData} (F_are_rows : Fun K "are_rows" "are_rows" s_are_rows f_are_rows fd_are_rows) (m_are_rows' : mg "are_rows" = some (.ref f_are_rows)) (b_are_rows' : Binds K fd_are_rows ["thing"] []) (G_is_row : Known P w K mg base exc 3 "is_row" 1 m_is_row) (z_all : mg "all" = none) (z_isinstance : mg "isinstance" = none) (z_len : mg "len" = none) (z_tuple : mg "tuple" = none) (c_MOST_ROWS : GlobD K mg "MOST_ROWS" k_MOST_ROWS) : Known P w K mg base exc 4 "are_rows" 1 m_are_rows :=
  fn_ok (k := 3) (N := N_are_rows) (r := b_are_rows) F_are_rows m_are_rows' b_are_rows' sc_are_rows rfl (fun cdv A outer s H E B hr => by
      have tk : Takes (cxOf (L2.CX P w) P w K mg base N_are_rows "are_rows" (defScope s_are_rows) f_are_rows cdv A outer s H E) (fun cls d _ H => E cls d H) := takes_of rfl rfl rfl rfl
      have px : Passes (L2.CX P w) (cxOf (L2.CX P w) P w K mg base N_are_rows "are_rows" (defScope s_are_rows) f_are_rows cdv A outer s H E) E := passD tk
      have po : PassesOwn (model P w) (A.deeper (envOfC "are_rows" (defScope s_are_rows) s.heap.objs.size f_are_rows cdv)) (envOfC "are_rows" (defScope s_are_rows) s.heap.objs.size f_are_rows cdv) (cxOf (L2.CX P w) P w K mg base N_are_rows "are_rows" (defScope s_are_rows) f_are_rows cdv A outer s H E).xe := passes_of rfl
      exact ⟨_, (dss_one (ds_ret (fr := true) (de_and (fs := true) (de_isi (fs := true) isi_tuple z_isinstance z_tuple (by decide +kernel) (de_var 0)) (de_and (fs := true) (de_cmp os_cmp op_leQ (de_len (fr := true) z_len (da_cons (de_var 0) da_nil)) (de_g c_MOST_ROWS) (nomark _)) (de_one (de_callB cs_all (cr_all rfl) z_all (by decide +kernel) (da_cons (de_lc [("part", 1)] rfl sc_are_rows.nd (di_seq (de_var 0)) (blkOk_by (N := N_are_rows) (sc := defScope s_are_rows) (by decide +kernel)) (fun _ _ _ _ _ _ => ⟨_, (dg_name 1 sc_are_rows.nd)⟩) (fun _ _ _ _ _ _ => ⟨_, dts_nil⟩) (fun _ _ _ _ _ _ => ⟨_, (de_call G_is_row (hr.mono (by decide)) passL (da_cons (de_var 1) da_nil))⟩)) da_nil)))))))⟩)
theorem ok_is_tree_is_letter {f_is_tree : Addr} {fd_is_tree : FuncData} (F_is_tree : Fun K "is_tree" "is_tree" s_is_tree f_is_tree fd_is_tree) (m_is_tree' : mg "is_tree" = some (.ref f_is_tree)) (b_is_tree' : Binds K fd_is_tree ["thing"] []) {f_is_letter : Addr} {fd_is_letter : FuncData} (F_is_letter : Fun K "is_letter" "is_letter" s_is_letter f_is_letter fd_is_letter) (m_is_letter' : mg "is_letter" = some (.ref f_is_letter)) (b_is_letter' : Binds K fd_is_letter ["thing"] []) (G_is_line : Known P w K mg base exc 1 "is_line" 1 m_is_line) (G_is_name : Known P w K mg base exc 1 "is_name" 1 m_is_name) (z_all : mg "all" = none) (z_isinstance : mg "isinstance" = none) (z_len : mg "len" = none) (z_tuple : mg "tuple" = none) :
    ∀ n : Nat, Known P w K mg base exc (1 + n) "is_tree" 1 (m_is_tree n) ∧ Known P w K mg base exc (1 + n) "is_letter" 1 (m_is_letter n)
  | 0 => ⟨known_none F_is_tree m_is_tree' b_is_tree' rfl fun _ => rfl, known_none F_is_letter m_is_letter' b_is_letter' rfl fun _ => rfl⟩
  | n + 1 => by
    have ih := ok_is_tree_is_letter F_is_tree m_is_tree' b_is_tree' F_is_letter m_is_letter' b_is_letter' G_is_line G_is_name z_all z_isinstance z_len z_tuple n
    have G_is_tree := ih.1
    have G_is_letter := ih.2
    have q_is_tree : Known P w K mg base exc (1 + n + 1) "is_tree" 1 (m_is_tree (n + 1)) := fn_ok (k := 1 + n) (N := N_is_tree) (r := b_is_tree (m_is_tree n) (m_is_letter n)) F_is_tree m_is_tree' b_is_tree' sc_is_tree rfl (fun cdv A outer s H E B hr => by
      have tk : Takes (cxOf (L2.CX P w) P w K mg base N_is_tree "is_tree" (defScope s_is_tree) f_is_tree cdv A outer s H E) (fun cls d _ H => E cls d H) := takes_of rfl rfl rfl rfl
      have px : Passes (L2.CX P w) (cxOf (L2.CX P w) P w K mg base N_is_tree "is_tree" (defScope s_is_tree) f_is_tree cdv A outer s H E) E := passD tk
      have po : PassesOwn (model P w) (A.deeper (envOfC "is_tree" (defScope s_is_tree) s.heap.objs.size f_is_tree cdv)) (envOfC "is_tree" (defScope s_is_tree) s.heap.objs.size f_is_tree cdv) (cxOf (L2.CX P w) P w K mg base N_is_tree "is_tree" (defScope s_is_tree) f_is_tree cdv A outer s H E).xe := passes_of rfl
      exact ⟨_, (dss_cons (ds_if (dt_not (dt_val (fr := true) (de_isi (fs := true) isi_tuple z_isinstance z_tuple (by decide +kernel) (de_var 0)))) (dss_one (ds_ret (fr := true) de_bl)) dss_nil) (dss_one (ds_ret (fr := true) (de_callB cs_all (cr_all rfl) z_all (by decide +kernel) (da_cons (de_lc [("part", 1)] rfl sc_is_tree.nd (di_seq (de_var 0)) (blkOk_by (N := N_is_tree) (sc := defScope s_is_tree) (by decide +kernel)) (fun _ _ _ _ _ _ => ⟨_, (dg_name 1 sc_is_tree.nd)⟩) (fun _ _ _ _ _ _ => ⟨_, dts_nil⟩) (fun _ _ _ _ _ _ => ⟨_, (de_or (fs := true) (de_call G_is_line (hr.mono (by omega)) passL (da_cons (de_var 1) da_nil)) (de_one (de_call G_is_letter (hr.mono (by omega)) passL (da_cons (de_var 1) da_nil))))⟩)) da_nil)))))⟩)
    have q_is_letter : Known P w K mg base exc (1 + n + 1) "is_letter" 1 (m_is_letter (n + 1)) := fn_ok (k := 1 + n) (N := N_is_letter) (r := b_is_letter (m_is_tree n) (m_is_letter n)) F_is_letter m_is_letter' b_is_letter' sc_is_letter rfl (fun cdv A outer s H E B hr => by
      have tk : Takes (cxOf (L2.CX P w) P w K mg base N_is_letter "is_letter" (defScope s_is_letter) f_is_letter cdv A outer s H E) (fun cls d _ H => E cls d H) := takes_of rfl rfl rfl rfl
      have px : Passes (L2.CX P w) (cxOf (L2.CX P w) P w K mg base N_is_letter "is_letter" (defScope s_is_letter) f_is_letter cdv A outer s H E) E := passD tk
      have po : PassesOwn (model P w) (A.deeper (envOfC "is_letter" (defScope s_is_letter) s.heap.objs.size f_is_letter cdv)) (envOfC "is_letter" (defScope s_is_letter) s.heap.objs.size f_is_letter cdv) (cxOf (L2.CX P w) P w K mg base N_is_letter "is_letter" (defScope s_is_letter) f_is_letter cdv A outer s H E).xe := passes_of rfl
      exact ⟨_, (dss_cons (ds_if (DW.dt (dw_or (dt_not (dt_val (fr := true) (de_isi (fs := true) isi_tuple z_isinstance z_tuple (by decide +kernel) (de_var 0)))) (dw_or (dt_cmp (fr := true) os_ne (op_neD (hu64 hr)) (de_len (fr := true) z_len (da_cons (de_var 0) da_nil)) de_int (nomark _)) (dw_or1 (dt_not (dt_val (fr := true) (de_call G_is_name (hr.mono (by omega)) px (da_cons (de_ix (de_var 0) de_int) da_nil)))))))) (dss_one (ds_ret (fr := true) de_bl)) dss_nil) (dss_one (ds_ret (fr := true) (de_and (fs := true) (de_isi (fs := true) isi_tuple z_isinstance z_tuple (by decide +kernel) (de_ix (de_var 0) de_int)) (de_and (fs := true) (de_cmp os_cmp op_gtQ (de_len (fr := true) z_len (da_cons (de_ix (de_var 0) de_int) da_nil)) de_int (nomark _)) (de_one (de_callB cs_all (cr_all rfl) z_all (by decide +kernel) (da_cons (de_lc [("part", 1)] rfl sc_is_letter.nd (di_seq (de_ix (de_var 0) de_int)) (blkOk_by (N := N_is_letter) (sc := defScope s_is_letter) (by decide +kernel)) (fun _ _ _ _ _ _ => ⟨_, (dg_name 1 sc_is_letter.nd)⟩) (fun _ _ _ _ _ _ => ⟨_, dts_nil⟩) (fun _ _ _ _ _ _ => ⟨_, (de_call G_is_tree (hr.mono (by omega)) passL (da_cons (de_var 1) da_nil))⟩)) da_nil))))))))⟩)
    exact ⟨q_is_tree, q_is_letter⟩
theorem ok__law_cell_at {f__law_cell_at : Addr} {fd__law_cell_at : FuncData} (F__law_cell_at : Fun K "_law_cell_at" "_law_cell_at" s__law_cell_at f__law_cell_at fd__law_cell_at) (m__law_cell_at' : mg "_law_cell_at" = some (.ref f__law_cell_at)) (b__law_cell_at' : Binds K fd__law_cell_at ["script", "k"] []) (z_len : mg "len" = none) : Known P w K mg base exc 1 "_law_cell_at" 2 m__law_cell_at :=
  fn_ok (k := 0) (N := N__law_cell_at) (r := b__law_cell_at) F__law_cell_at m__law_cell_at' b__law_cell_at' sc__law_cell_at rfl (fun cdv A outer s H E B hr => by
      have tk : Takes (cxOf (L2.CX P w) P w K mg base N__law_cell_at "_law_cell_at" (defScope s__law_cell_at) f__law_cell_at cdv A outer s H E) (fun cls d _ H => E cls d H) := takes_of rfl rfl rfl rfl
      have px : Passes (L2.CX P w) (cxOf (L2.CX P w) P w K mg base N__law_cell_at "_law_cell_at" (defScope s__law_cell_at) f__law_cell_at cdv A outer s H E) E := passD tk
      have po : PassesOwn (model P w) (A.deeper (envOfC "_law_cell_at" (defScope s__law_cell_at) s.heap.objs.size f__law_cell_at cdv)) (envOfC "_law_cell_at" (defScope s__law_cell_at) s.heap.objs.size f__law_cell_at cdv) (cxOf (L2.CX P w) P w K mg base N__law_cell_at "_law_cell_at" (defScope s__law_cell_at) f__law_cell_at cdv A outer s H E).xe := passes_of rfl
      exact ⟨_, (dss_cons (ds_if (dt_cmp (fr := true) os_cmp op_ltQ (de_var 1) (de_len (fr := true) z_len (da_cons (de_var 0) da_nil)) (nomark _)) (dss_one (ds_ret (fr := true) (de_ix (de_var 0) (de_var 1)))) dss_nil) (dss_one (ds_ret (fr := true) de_int)))⟩)
theorem ok__law_mixed {f__law_mixed : Addr} {fd__law_mixed : FuncData} (F__law_mixed : Fun K "_law_mixed" "_law_mixed" s__law_mixed f__law_mixed fd__law_mixed) (m__law_mixed' : mg "_law_mixed" = some (.ref f__law_mixed)) (b__law_mixed' : Binds K fd__law_mixed ["script", "k"] []) (G__law_cell_at : Known P w K mg base exc 1 "_law_cell_at" 2 m__law_cell_at) : Known P w K mg base exc 2 "_law_mixed" 2 m__law_mixed :=
  fn_ok (k := 1) (N := N__law_mixed) (r := b__law_mixed) F__law_mixed m__law_mixed' b__law_mixed' sc__law_mixed rfl (fun cdv A outer s H E B hr => by
      have tk : Takes (cxOf (L2.CX P w) P w K mg base N__law_mixed "_law_mixed" (defScope s__law_mixed) f__law_mixed cdv A outer s H E) (fun cls d _ H => E cls d H) := takes_of rfl rfl rfl rfl
      have px : Passes (L2.CX P w) (cxOf (L2.CX P w) P w K mg base N__law_mixed "_law_mixed" (defScope s__law_mixed) f__law_mixed cdv A outer s H E) E := passD tk
      have po : PassesOwn (model P w) (A.deeper (envOfC "_law_mixed" (defScope s__law_mixed) s.heap.objs.size f__law_mixed cdv)) (envOfC "_law_mixed" (defScope s__law_mixed) s.heap.objs.size f__law_mixed cdv) (cxOf (L2.CX P w) P w K mg base N__law_mixed "_law_mixed" (defScope s__law_mixed) f__law_mixed cdv A outer s H E).xe := passes_of rfl
      exact ⟨_, (dss_cons (ds_set 2 sc__law_mixed.nd (de_op os_mod op_mod (de_op os_mul op_mulQ (de_op os_add op_addQ (de_op os_add op_addQ (de_call G__law_cell_at (hr.mono (by decide)) px (da_cons (de_var 0) (da_cons (de_var 1) da_nil))) (de_op os_mul op_mulQ de_int (de_var 1))) de_int) de_int) de_int)) (dss_one (ds_ret (fr := true) (de_op os_mod op_mod (de_op os_add op_addQ (de_op os_add op_addQ (de_op os_mul op_mulQ (de_var 2) (de_var 2)) (de_op os_mul op_mulQ de_int (de_var 2))) (de_var 1)) de_int))))⟩)
theorem ok__law_drawn {f__law_drawn : Addr} {fd__law_drawn : FuncData} (F__law_drawn : Fun K "_law_drawn" "_law_drawn" s__law_drawn f__law_drawn fd__law_drawn) (m__law_drawn' : mg "_law_drawn" = some (.ref f__law_drawn)) (b__law_drawn' : Binds K fd__law_drawn ["number", "k"] []) : Known P w K mg base exc 1 "_law_drawn" 2 m__law_drawn :=
  fn_ok (k := 0) (N := N__law_drawn) (r := b__law_drawn) F__law_drawn m__law_drawn' b__law_drawn' sc__law_drawn rfl (fun cdv A outer s H E B hr => by
      have tk : Takes (cxOf (L2.CX P w) P w K mg base N__law_drawn "_law_drawn" (defScope s__law_drawn) f__law_drawn cdv A outer s H E) (fun cls d _ H => E cls d H) := takes_of rfl rfl rfl rfl
      have px : Passes (L2.CX P w) (cxOf (L2.CX P w) P w K mg base N__law_drawn "_law_drawn" (defScope s__law_drawn) f__law_drawn cdv A outer s H E) E := passD tk
      have po : PassesOwn (model P w) (A.deeper (envOfC "_law_drawn" (defScope s__law_drawn) s.heap.objs.size f__law_drawn cdv)) (envOfC "_law_drawn" (defScope s__law_drawn) s.heap.objs.size f__law_drawn cdv) (cxOf (L2.CX P w) P w K mg base N__law_drawn "_law_drawn" (defScope s__law_drawn) f__law_drawn cdv A outer s H E).xe := passes_of rfl
      exact ⟨_, (dss_cons (ds_set 2 sc__law_drawn.nd (de_op os_mod op_mod (de_op os_mul op_mulQ (de_op os_add op_addQ (de_op os_add op_addQ (de_var 0) (de_op os_mul op_mulQ de_int (de_var 1))) de_int) de_int) de_int)) (dss_one (ds_ret (fr := true) (de_op os_mod op_mod (de_op os_add op_addQ (de_op os_add op_addQ (de_op os_mul op_mulQ (de_var 2) (de_var 2)) (de_op os_mul op_mulQ de_int (de_var 2))) (de_var 1)) de_int))))⟩)
theorem ok__law_row {f__law_row : Addr} {fd__law_row : FuncData} (F__law_row : Fun K "_law_row" "_law_row" s__law_row f__law_row fd__law_row) (m__law_row' : mg "_law_row" = some (.ref f__law_row)) (b__law_row' : Binds K fd__law_row ["number", "kinds"] []) : Known P w K mg base exc 1 "_law_row" 2 m__law_row :=
  fn_ok (k := 0) (N := N__law_row) (r := b__law_row) F__law_row m__law_row' b__law_row' sc__law_row rfl (fun cdv A outer s H E B hr => by
      have tk : Takes (cxOf (L2.CX P w) P w K mg base N__law_row "_law_row" (defScope s__law_row) f__law_row cdv A outer s H E) (fun cls d _ H => E cls d H) := takes_of rfl rfl rfl rfl
      have px : Passes (L2.CX P w) (cxOf (L2.CX P w) P w K mg base N__law_row "_law_row" (defScope s__law_row) f__law_row cdv A outer s H E) E := passD tk
      have po : PassesOwn (model P w) (A.deeper (envOfC "_law_row" (defScope s__law_row) s.heap.objs.size f__law_row cdv)) (envOfC "_law_row" (defScope s__law_row) s.heap.objs.size f__law_row cdv) (cxOf (L2.CX P w) P w K mg base N__law_row "_law_row" (defScope s__law_row) f__law_row cdv A outer s H E).xe := passes_of rfl
      exact ⟨_, (dss_cons (ds_set 2 sc__law_row.nd (de_ix (de_tup (da_cons de_str (da_cons de_str (da_cons de_str (da_cons de_str (da_cons de_str (da_cons de_str (da_cons de_str da_nil)))))))) (de_op os_mod op_mod (de_op os_fdiv op_fdiv (de_var 0) de_int) de_int))) (dss_cons (ds_if (dt_cmp (fr := true) os_eq (op_eqD (hu64 hr)) (de_var 2) de_str (nomark _)) (dss_one (ds_ret (fr := true) (de_tup (da_cons (de_var 2) (da_cons (de_ix (de_tup (da_cons de_str (da_cons de_str (da_cons de_str (da_cons de_str (da_cons de_str (da_cons de_str da_nil))))))) (de_op os_mod op_mod (de_op os_fdiv op_fdiv (de_var 0) de_int) de_int)) da_nil))))) dss_nil) (dss_one (ds_ret (fr := true) (de_tup (da_cons (de_var 2) (da_cons (de_ix (de_tup (da_cons de_str (da_cons de_str (da_cons de_str da_nil)))) (de_op os_mod op_mod (de_op os_fdiv op_fdiv (de_var 0) de_int) (de_var 1))) da_nil)))))))⟩)
theorem ok__law_rows {f__law_rows : Addr} {fd__law_rows : FuncData} (F__law_rows : Fun K "_law_rows" "_law_rows" s__law_rows f__law_rows fd__law_rows) (m__law_rows' : mg "_law_rows" = some (.ref f__law_rows)) (b__law_rows' : Binds K fd__law_rows ["number", "most"] []) (G__law_row : Known P w K mg base exc 1 "_law_row" 2 m__law_row) (G__law_drawn : Known P w K mg base exc 1 "_law_drawn" 2 m__law_drawn) (z_range : mg "range" = none) (z_tuple : mg "tuple" = none) : Known P w K mg base exc 2 "_law_rows" 2 m__law_rows :=
  fn_ok (k := 1) (N := N__law_rows) (r := b__law_rows) F__law_rows m__law_rows' b__law_rows' sc__law_rows rfl (fun cdv A outer s H E B hr => by
      have tk : Takes (cxOf (L2.CX P w) P w K mg base N__law_rows "_law_rows" (defScope s__law_rows) f__law_rows cdv A outer s H E) (fun cls d _ H => E cls d H) := takes_of rfl rfl rfl rfl
      have px : Passes (L2.CX P w) (cxOf (L2.CX P w) P w K mg base N__law_rows "_law_rows" (defScope s__law_rows) f__law_rows cdv A outer s H E) E := passD tk
      have po : PassesOwn (model P w) (A.deeper (envOfC "_law_rows" (defScope s__law_rows) s.heap.objs.size f__law_rows cdv)) (envOfC "_law_rows" (defScope s__law_rows) s.heap.objs.size f__law_rows cdv) (cxOf (L2.CX P w) P w K mg base N__law_rows "_law_rows" (defScope s__law_rows) f__law_rows cdv A outer s H E).xe := passes_of rfl
      exact ⟨_, (dss_cons (ds_set 2 sc__law_rows.nd (de_op os_add op_addQ de_int (de_op os_mod op_mod (de_op os_fdiv op_fdiv (de_var 0) de_int) de_int))) (dss_one (ds_ret (fr := true) (de_callTy cs_tuple call_tuple_of z_tuple (by decide +kernel) (da_cons (de_lc [("k", 3)] rfl sc__law_rows.nd (di_range1 (fs := true) z_range (da_cons (de_op os_mod op_mod (de_var 0) (de_op os_add op_addQ (de_var 1) de_int)) da_nil)) (blkOk_by (N := N__law_rows) (sc := defScope s__law_rows) (by decide +kernel)) (fun _ _ _ _ _ _ => ⟨_, (dg_name 3 sc__law_rows.nd)⟩) (fun _ _ _ _ _ _ => ⟨_, dts_nil⟩) (fun _ _ _ _ _ _ => ⟨_, (de_call G__law_row (hr.mono (by decide)) passL (da_cons (de_call G__law_drawn (hr.mono (by decide)) passL (da_cons (de_var 0) (da_cons (de_op os_add op_addQ de_int (de_var 3)) da_nil))) (da_cons (de_var 2) da_nil)))⟩)) da_nil)))))⟩)
theorem ok__law_tree {f__law_tree : Addr} {fd__law_tree : FuncData} (F__law_tree : Fun K "_law_tree" "_law_tree" s__law_tree f__law_tree fd__law_tree) (m__law_tree' : mg "_law_tree" = some (.ref f__law_tree)) (b__law_tree' : Binds K fd__law_tree ["number", "down"] []) (G__law_drawn : Known P w K mg base exc 1 "_law_drawn" 2 m__law_drawn) (z_range : mg "range" = none) (z_tuple : mg "tuple" = none) :
    ∀ n : Nat, Known P w K mg base exc (1 + n) "_law_tree" 2 (m__law_tree n)
  | 0 => known_none F__law_tree m__law_tree' b__law_tree' rfl fun _ => rfl
  | n + 1 => by
    have ih := ok__law_tree F__law_tree m__law_tree' b__law_tree' G__law_drawn z_range z_tuple n
    have G__law_tree := ih
    have q__law_tree : Known P w K mg base exc (1 + n + 1) "_law_tree" 2 (m__law_tree (n + 1)) := fn_ok (k := 1 + n) (N := N__law_tree) (r := b__law_tree (m__law_tree n)) F__law_tree m__law_tree' b__law_tree' sc__law_tree rfl (fun cdv A outer s H E B hr => by
      have tk : Takes (cxOf (L2.CX P w) P w K mg base N__law_tree "_law_tree" (defScope s__law_tree) f__law_tree cdv A outer s H E) (fun cls d _ H => E cls d H) := takes_of rfl rfl rfl rfl
      have px : Passes (L2.CX P w) (cxOf (L2.CX P w) P w K mg base N__law_tree "_law_tree" (defScope s__law_tree) f__law_tree cdv A outer s H E) E := passD tk
      have po : PassesOwn (model P w) (A.deeper (envOfC "_law_tree" (defScope s__law_tree) s.heap.objs.size f__law_tree cdv)) (envOfC "_law_tree" (defScope s__law_tree) s.heap.objs.size f__law_tree cdv) (cxOf (L2.CX P w) P w K mg base N__law_tree "_law_tree" (defScope s__law_tree) f__law_tree cdv A outer s H E).xe := passes_of rfl
      exact ⟨_, (dss_cons (ds_set 2 sc__law_tree.nd (de_tup da_nil)) (dss_cons (ds_for (vs := [3]) po rfl (di_range1 (fs := true) z_range (da_cons (de_op os_mod op_mod (de_op os_fdiv op_fdiv (de_var 0) de_int) de_int) da_nil)) (dg_name 3 sc__law_tree.nd) (dss_cons (ds_set 4 sc__law_tree.nd (de_call G__law_drawn (hr.mono (by omega)) px (da_cons (de_var 0) (da_cons (de_op os_add op_addQ de_int (de_var 3)) da_nil)))) (dss_one (ds_if (DW.dt (dw_and (dt_cmp (fr := true) os_cmp op_gtQ (de_var 1) de_int (nomark _)) (dw_and1 (dt_cmp (fr := true) os_eq (op_eqD (hu64 hr)) (de_op os_mod op_mod (de_op os_fdiv op_fdiv (de_var 4) de_int) de_int) de_int (nomark _))))) (dss_cons (ds_set 5 sc__law_tree.nd (de_callTy cs_tuple call_tuple_of z_tuple (by decide +kernel) (da_cons (de_lc [("j", 6)] rfl sc__law_tree.nd (di_range1 (fs := true) z_range (da_cons (de_op os_add op_addQ de_int (de_op os_mod op_mod (de_op os_fdiv op_fdiv (de_var 4) de_int) de_int)) da_nil)) (blkOk_by (N := N__law_tree) (sc := defScope s__law_tree) (by decide +kernel)) (fun _ _ _ _ _ _ => ⟨_, (dg_name 6 sc__law_tree.nd)⟩) (fun _ _ _ _ _ _ => ⟨_, dts_nil⟩) (fun _ _ _ _ _ _ => ⟨_, (de_call G__law_tree (hr.mono (by omega)) passL (da_cons (de_call G__law_drawn (hr.mono (by omega)) passL (da_cons (de_var 4) (da_cons (de_var 6) da_nil))) (da_cons (de_op os_sub op_sub (de_var 1) de_int) da_nil)))⟩)) da_nil))) (dss_one (ds_set 2 sc__law_tree.nd (de_op os_add op_addQ (de_var 2) (de_tup (da_cons (de_tup (da_cons (de_ix (de_tup (da_cons de_str (da_cons de_str (da_cons de_str da_nil)))) (de_op os_mod op_mod (de_op os_fdiv op_fdiv (de_var 4) de_int) de_int)) (da_cons (de_var 5) da_nil))) da_nil)))))) (dss_one (ds_set 2 sc__law_tree.nd (de_op os_add op_addQ (de_var 2) (de_tup (da_cons (de_ix (de_tup (da_cons de_str (da_cons de_str (da_cons de_str (da_cons de_str (da_cons de_str (da_cons de_str da_nil))))))) (de_op os_mod op_mod (de_op os_fdiv op_fdiv (de_var 4) de_int) de_int)) da_nil))))))))) (dss_one (ds_ret (fr := true) (de_var 2)))))⟩)
    exact q__law_tree
theorem ok__law_is_name {f__law_is_name : Addr} {fd__law_is_name : FuncData} (F__law_is_name : Fun K "_law_is_name" "_law_is_name" s__law_is_name f__law_is_name fd__law_is_name) (m__law_is_name' : mg "_law_is_name" = some (.ref f__law_is_name)) (b__law_is_name' : Binds K fd__law_is_name ["thing"] []) (z_isinstance : mg "isinstance" = none) (z_len : mg "len" = none) (z_str : mg "str" = none) : Known P w K mg base exc 1 "_law_is_name" 1 m__law_is_name :=
  fn_ok (k := 0) (N := N__law_is_name) (r := b__law_is_name) F__law_is_name m__law_is_name' b__law_is_name' sc__law_is_name rfl (fun cdv A outer s H E B hr => by
      have tk : Takes (cxOf (L2.CX P w) P w K mg base N__law_is_name "_law_is_name" (defScope s__law_is_name) f__law_is_name cdv A outer s H E) (fun cls d _ H => E cls d H) := takes_of rfl rfl rfl rfl
      have px : Passes (L2.CX P w) (cxOf (L2.CX P w) P w K mg base N__law_is_name "_law_is_name" (defScope s__law_is_name) f__law_is_name cdv A outer s H E) E := passD tk
      have po : PassesOwn (model P w) (A.deeper (envOfC "_law_is_name" (defScope s__law_is_name) s.heap.objs.size f__law_is_name cdv)) (envOfC "_law_is_name" (defScope s__law_is_name) s.heap.objs.size f__law_is_name cdv) (cxOf (L2.CX P w) P w K mg base N__law_is_name "_law_is_name" (defScope s__law_is_name) f__law_is_name cdv A outer s H E).xe := passes_of rfl
      exact ⟨_, (dss_cons (ds_if (DW.dt (dw_or (dt_not (dt_val (fr := true) (de_isi (fs := true) isi_str z_isinstance z_str (by decide +kernel) (de_var 0)))) (dw_or1 (dt_not (dt_chain (fr := true) os_cmp op_leQ os_cmp op_leQ de_int (de_len (fr := true) z_len (da_cons (de_var 0) da_nil)) de_int))))) (dss_one (ds_ret (fr := true) de_bl)) dss_nil) (dss_one (ds_ret (fr := true) (de_cmp os_eq (op_eqD (hu64 hr)) (de_lc [("sign", 1)] rfl sc__law_is_name.nd (di_seq (de_var 0)) (blkOk_by (N := N__law_is_name) (sc := defScope s__law_is_name) (by decide +kernel)) (fun _ _ _ _ _ _ => ⟨_, (dg_name 1 sc__law_is_name.nd)⟩) (fun _ _ _ _ _ _ => ⟨_, (dts_one (dt_not (dt_chain (fr := true) os_cmp op_leQ os_cmp op_leQ de_str (de_var 1) de_str)))⟩) (fun _ _ _ _ _ _ => ⟨_, (de_var 1)⟩)) (de_lst da_nil) (nomark _)))))⟩)
theorem ok__law_is_text {f__law_is_text : Addr} {fd__law_is_text : FuncData} (F__law_is_text : Fun K "_law_is_text" "_law_is_text" s__law_is_text f__law_is_text fd__law_is_text) (m__law_is_text' : mg "_law_is_text" = some (.ref f__law_is_text)) (b__law_is_text' : Binds K fd__law_is_text ["thing"] []) (z_isinstance : mg "isinstance" = none) (z_len : mg "len" = none) (z_str : mg "str" = none) : Known P w K mg base exc 1 "_law_is_text" 1 m__law_is_text :=
  fn_ok (k := 0) (N := N__law_is_text) (r := b__law_is_text) F__law_is_text m__law_is_text' b__law_is_text' sc__law_is_text rfl (fun cdv A outer s H E B hr => by
      have tk : Takes (cxOf (L2.CX P w) P w K mg base N__law_is_text "_law_is_text" (defScope s__law_is_text) f__law_is_text cdv A outer s H E) (fun cls d _ H => E cls d H) := takes_of rfl rfl rfl rfl
      have px : Passes (L2.CX P w) (cxOf (L2.CX P w) P w K mg base N__law_is_text "_law_is_text" (defScope s__law_is_text) f__law_is_text cdv A outer s H E) E := passD tk
      have po : PassesOwn (model P w) (A.deeper (envOfC "_law_is_text" (defScope s__law_is_text) s.heap.objs.size f__law_is_text cdv)) (envOfC "_law_is_text" (defScope s__law_is_text) s.heap.objs.size f__law_is_text cdv) (cxOf (L2.CX P w) P w K mg base N__law_is_text "_law_is_text" (defScope s__law_is_text) f__law_is_text cdv A outer s H E).xe := passes_of rfl
      exact ⟨_, (dss_one (ds_ret (fr := true) (de_and (fs := true) (de_isi (fs := true) isi_str z_isinstance z_str (by decide +kernel) (de_var 0)) (de_and (fs := true) (de_cmp os_cmp op_leQ (de_len (fr := true) z_len (da_cons (de_var 0) da_nil)) de_int (nomark _)) (de_one (de_cmp os_eq (op_eqD (hu64 hr)) (de_lc [("sign", 1)] rfl sc__law_is_text.nd (di_seq (de_var 0)) (blkOk_by (N := N__law_is_text) (sc := defScope s__law_is_text) (by decide +kernel)) (fun _ _ _ _ _ _ => ⟨_, (dg_name 1 sc__law_is_text.nd)⟩) (fun _ _ _ _ _ _ => ⟨_, (dts_one (dt_not (dt_chain (fr := true) os_cmp op_leQ os_cmp op_leQ de_str (de_var 1) de_str)))⟩) (fun _ _ _ _ _ _ => ⟨_, (de_var 1)⟩)) (de_lst da_nil) (nomark _)))))))⟩)
theorem ok__law_are_rows {f__law_are_rows : Addr} {fd__law_are_rows : FuncData} (F__law_are_rows : Fun K "_law_are_rows" "_law_are_rows" s__law_are_rows f__law_are_rows fd__law_are_rows) (m__law_are_rows' : mg "_law_are_rows" = some (.ref f__law_are_rows)) (b__law_are_rows' : Binds K fd__law_are_rows ["thing"] []) (G__law_is_text : Known P w K mg base exc 1 "_law_is_text" 1 m__law_is_text) (G__law_is_name : Known P w K mg base exc 1 "_law_is_name" 1 m__law_is_name) (z_isinstance : mg "isinstance" = none) (z_len : mg "len" = none) (z_str : mg "str" = none) (z_tuple : mg "tuple" = none) : Known P w K mg base exc 2 "_law_are_rows" 1 m__law_are_rows :=
  fn_ok (k := 1) (N := N__law_are_rows) (r := b__law_are_rows) F__law_are_rows m__law_are_rows' b__law_are_rows' sc__law_are_rows rfl (fun cdv A outer s H E B hr => by
      have tk : Takes (cxOf (L2.CX P w) P w K mg base N__law_are_rows "_law_are_rows" (defScope s__law_are_rows) f__law_are_rows cdv A outer s H E) (fun cls d _ H => E cls d H) := takes_of rfl rfl rfl rfl
      have px : Passes (L2.CX P w) (cxOf (L2.CX P w) P w K mg base N__law_are_rows "_law_are_rows" (defScope s__law_are_rows) f__law_are_rows cdv A outer s H E) E := passD tk
      have po : PassesOwn (model P w) (A.deeper (envOfC "_law_are_rows" (defScope s__law_are_rows) s.heap.objs.size f__law_are_rows cdv)) (envOfC "_law_are_rows" (defScope s__law_are_rows) s.heap.objs.size f__law_are_rows cdv) (cxOf (L2.CX P w) P w K mg base N__law_are_rows "_law_are_rows" (defScope s__law_are_rows) f__law_are_rows cdv A outer s H E).xe := passes_of rfl
      exact ⟨_, (dss_cons (ds_if (DW.dt (dw_or (dt_not (dt_val (fr := true) (de_isi (fs := true) isi_tuple z_isinstance z_tuple (by decide +kernel) (de_var 0)))) (dw_or1 (dt_cmp (fr := true) os_cmp op_gtQ (de_len (fr := true) z_len (da_cons (de_var 0) da_nil)) de_int (nomark _))))) (dss_one (ds_ret (fr := true) de_bl)) dss_nil) (dss_cons (ds_for (vs := [1]) po rfl (di_seq (de_var 0)) (dg_name 1 sc__law_are_rows.nd) (dss_cons (ds_if (DW.dt (dw_or (dt_not (dt_val (fr := true) (de_isi (fs := true) isi_tuple z_isinstance z_tuple (by decide +kernel) (de_var 1)))) (dw_or (dt_cmp (fr := true) os_ne (op_neD (hu64 hr)) (de_len (fr := true) z_len (da_cons (de_var 1) da_nil)) de_int (nomark _)) (dw_or1 (dt_not (dt_val (fr := true) (de_isi (fs := true) isi_str z_isinstance z_str (by decide +kernel) (de_ix (de_var 1) de_int)))))))) (dss_one (ds_ret (fr := true) de_bl)) dss_nil) (dss_cons (ds_set 2 sc__law_are_rows.nd (de_and (fs := true) (de_cmp os_eq (op_eqD (hu64 hr)) (de_ix (de_var 1) de_int) de_str (nomark _)) (de_one (de_call G__law_is_text (hr.mono (by decide)) px (da_cons (de_ix (de_var 1) de_int) da_nil))))) (dss_one (ds_if (DW.dt (dw_and (dt_not (dt_val (fr := true) (de_var 2))) (dw_and1 (dt_not (DW.dt (dw_and (dt_cmp (fr := true) os_in (op_inQ (hu65 hr)) (de_ix (de_var 1) de_int) (de_tup (da_cons de_str (da_cons de_str (da_cons de_str da_nil)))) (by rfl)) (dw_and1 (dt_val (fr := true) (de_call G__law_is_name (hr.mono (by decide)) px (da_cons (de_ix (de_var 1) de_int) da_nil)))))))))) (dss_one (ds_ret (fr := true) de_bl)) dss_nil))))) (dss_one (ds_ret (fr := true) de_bl))))⟩)
theorem ok__law_is_tree {f__law_is_tree : Addr} {fd__law_is_tree : FuncData} (F__law_is_tree : Fun K "_law_is_tree" "_law_is_tree" s__law_is_tree f__law_is_tree fd__law_is_tree) (m__law_is_tree' : mg "_law_is_tree" = some (.ref f__law_is_tree)) (b__law_is_tree' : Binds K fd__law_is_tree ["thing"] []) (G__law_is_text : Known P w K mg base exc 1 "_law_is_text" 1 m__law_is_text) (G__law_is_name : Known P w K mg base exc 1 "_law_is_name" 1 m__law_is_name) (z_isinstance : mg "isinstance" = none) (z_len : mg "len" = none) (z_tuple : mg "tuple" = none) :
    ∀ n : Nat, Known P w K mg base exc (1 + n) "_law_is_tree" 1 (m__law_is_tree n)
  | 0 => known_none F__law_is_tree m__law_is_tree' b__law_is_tree' rfl fun _ => rfl
  | n + 1 => by
    have ih := ok__law_is_tree F__law_is_tree m__law_is_tree' b__law_is_tree' G__law_is_text G__law_is_name z_isinstance z_len z_tuple n
    have G__law_is_tree := ih
    have q__law_is_tree : Known P w K mg base exc (1 + n + 1) "_law_is_tree" 1 (m__law_is_tree (n + 1)) := fn_ok (k := 1 + n) (N := N__law_is_tree) (r := b__law_is_tree (m__law_is_tree n)) F__law_is_tree m__law_is_tree' b__law_is_tree' sc__law_is_tree rfl (fun cdv A outer s H E B hr => by
      have tk : Takes (cxOf (L2.CX P w) P w K mg base N__law_is_tree "_law_is_tree" (defScope s__law_is_tree) f__law_is_tree cdv A outer s H E) (fun cls d _ H => E cls d H) := takes_of rfl rfl rfl rfl
      have px : Passes (L2.CX P w) (cxOf (L2.CX P w) P w K mg base N__law_is_tree "_law_is_tree" (defScope s__law_is_tree) f__law_is_tree cdv A outer s H E) E := passD tk
      have po : PassesOwn (model P w) (A.deeper (envOfC "_law_is_tree" (defScope s__law_is_tree) s.heap.objs.size f__law_is_tree cdv)) (envOfC "_law_is_tree" (defScope s__law_is_tree) s.heap.objs.size f__law_is_tree cdv) (cxOf (L2.CX P w) P w K mg base N__law_is_tree "_law_is_tree" (defScope s__law_is_tree) f__law_is_tree cdv A outer s H E).xe := passes_of rfl
      exact ⟨_, (dss_cons (ds_if (dt_not (dt_val (fr := true) (de_isi (fs := true) isi_tuple z_isinstance z_tuple (by decide +kernel) (de_var 0)))) (dss_one (ds_ret (fr := true) de_bl)) dss_nil) (dss_cons (ds_for (vs := [1]) po rfl (di_seq (de_var 0)) (dg_name 1 sc__law_is_tree.nd) (dss_one (ds_if (dt_not (dt_val (fr := true) (de_call G__law_is_text (hr.mono (by omega)) px (da_cons (de_var 1) da_nil)))) (dss_cons (ds_if (DW.dt (dw_or (dt_not (dt_val (fr := true) (de_isi (fs := true) isi_tuple z_isinstance z_tuple (by decide +kernel) (de_var 1)))) (dw_or (dt_cmp (fr := true) os_ne (op_neD (hu64 hr)) (de_len (fr := true) z_len (da_cons (de_var 1) da_nil)) de_int (nomark _)) (dw_or1 (dt_not (dt_val (fr := true) (de_call G__law_is_name (hr.mono (by omega)) px (da_cons (de_ix (de_var 1) de_int) da_nil)))))))) (dss_one (ds_ret (fr := true) de_bl)) dss_nil) (dss_cons (ds_if (DW.dt (dw_or (dt_not (dt_val (fr := true) (de_isi (fs := true) isi_tuple z_isinstance z_tuple (by decide +kernel) (de_ix (de_var 1) de_int)))) (dw_or1 (dt_cmp (fr := true) os_eq (op_eqD (hu64 hr)) (de_ix (de_var 1) de_int) (de_tup da_nil) (nomark _))))) (dss_one (ds_ret (fr := true) de_bl)) dss_nil) (dss_one (ds_if (dt_cmp (fr := true) os_ne (op_neD (hu64 hr)) (de_lc [("part", 2)] rfl sc__law_is_tree.nd (di_seq (de_ix (de_var 1) de_int)) (blkOk_by (N := N__law_is_tree) (sc := defScope s__law_is_tree) (by decide +kernel)) (fun _ _ _ _ _ _ => ⟨_, (dg_name 2 sc__law_is_tree.nd)⟩) (fun _ _ _ _ _ _ => ⟨_, (dts_one (dt_not (dt_val (fr := true) (de_call G__law_is_tree (hr.mono (by omega)) passL (da_cons (de_var 2) da_nil)))))⟩) (fun _ _ _ _ _ _ => ⟨_, (de_var 2)⟩)) (de_lst da_nil) (nomark _)) (dss_one (ds_ret (fr := true) de_bl)) dss_nil)))) dss_nil))) (dss_one (ds_ret (fr := true) de_bl))))⟩)
    exact q__law_is_tree
theorem ok__law_edges {f__law_edges : Addr} {fd__law_edges : FuncData} (F__law_edges : Fun K "_law_edges" "_law_edges" s__law_edges f__law_edges fd__law_edges) (m__law_edges' : mg "_law_edges" = some (.ref f__law_edges)) (b__law_edges' : Binds K fd__law_edges ["number"] []) : Known P w K mg base exc 1 "_law_edges" 1 m__law_edges :=
  fn_ok (k := 0) (N := N__law_edges) (r := b__law_edges) F__law_edges m__law_edges' b__law_edges' sc__law_edges rfl (fun cdv A outer s H E B hr => by
      have tk : Takes (cxOf (L2.CX P w) P w K mg base N__law_edges "_law_edges" (defScope s__law_edges) f__law_edges cdv A outer s H E) (fun cls d _ H => E cls d H) := takes_of rfl rfl rfl rfl
      have px : Passes (L2.CX P w) (cxOf (L2.CX P w) P w K mg base N__law_edges "_law_edges" (defScope s__law_edges) f__law_edges cdv A outer s H E) E := passD tk
      have po : PassesOwn (model P w) (A.deeper (envOfC "_law_edges" (defScope s__law_edges) s.heap.objs.size f__law_edges cdv)) (envOfC "_law_edges" (defScope s__law_edges) s.heap.objs.size f__law_edges cdv) (cxOf (L2.CX P w) P w K mg base N__law_edges "_law_edges" (defScope s__law_edges) f__law_edges cdv A outer s H E).xe := passes_of rfl
      exact ⟨_, (dss_cons (ds_set 1 sc__law_edges.nd (de_op os_mod op_mod (de_var 0) de_int)) (dss_cons (ds_set 2 sc__law_edges.nd (de_lst (da_cons (de_op os_mul op_mulQ (de_tup (da_cons (de_tup (da_cons de_str (da_cons de_str da_nil))) da_nil)) (de_op os_add op_addQ de_int (de_var 1))) (da_cons (de_tup (da_cons (de_tup (da_cons de_str (da_cons (de_op os_mul op_mulQ de_str (de_op os_add op_addQ de_int (de_var 1))) da_nil))) da_nil)) (da_cons (de_tup (da_cons (de_tup (da_cons de_str (da_cons (de_op os_add op_addQ (de_slice de_str do_none (do_some (fr := true) (de_op os_add op_addQ de_int (de_var 1)))) de_str) da_nil))) da_nil)) da_nil))))) (dss_cons (ds_set 2 sc__law_edges.nd (de_op os_add op_addQ (de_var 2) (de_lst (da_cons (de_tup (da_cons (de_tup (da_cons de_str (da_cons de_str da_nil))) da_nil)) (da_cons (de_tup (da_cons (de_tup (da_cons de_str (da_cons de_str da_nil))) da_nil)) (da_cons (de_tup (da_cons (de_tup (da_cons de_str (da_cons de_str da_nil))) da_nil)) da_nil)))))) (dss_cons (ds_set 2 sc__law_edges.nd (de_op os_add op_addQ (de_var 2) (de_lst (da_cons (de_tup (da_cons (de_tup (da_cons de_str (da_cons de_str da_nil))) da_nil)) (da_cons (de_tup (da_cons (de_op os_mul op_mulQ de_str (de_op os_add op_addQ de_int (de_var 1))) da_nil)) da_nil))))) (dss_one (ds_ret (fr := true) (de_op os_add op_addQ (de_var 2) (de_lst (da_cons (de_tup (da_cons (de_tup (da_cons (de_op os_add op_addQ (de_slice de_str do_none (do_some (fr := true) (de_op os_add op_addQ de_int (de_var 1)))) de_str) (da_cons (de_tup (da_cons (de_tup da_nil) da_nil)) da_nil))) da_nil)) (da_cons (de_tup (da_cons (de_tup (da_cons de_str (da_cons (de_tup da_nil) da_nil))) da_nil)) (da_cons (de_tup (da_cons (de_tup (da_cons de_str (da_cons (de_tup (da_cons (de_tup da_nil) (da_cons (de_tup (da_cons de_str da_nil)) da_nil))) da_nil))) da_nil)) (da_cons (de_tup (da_cons (de_tup (da_cons de_str (da_cons (de_tup (da_cons de_str da_nil)) da_nil))) da_nil)) da_nil))))))))))))⟩)
theorem ok__law_places_in {f__law_places_in : Addr} {fd__law_places_in : FuncData} (F__law_places_in : Fun K "_law_places_in" "_law_places_in" s__law_places_in f__law_places_in fd__law_places_in) (m__law_places_in' : mg "_law_places_in" = some (.ref f__law_places_in)) (b__law_places_in' : Binds K fd__law_places_in ["bent_one", "bent_way"] []) (z_enumerate : mg "enumerate" = none) (z_isinstance : mg "isinstance" = none) (z_tuple : mg "tuple" = none) :
    ∀ n : Nat, Known P w K mg base exc (0 + n) "_law_places_in" 2 (m__law_places_in n)
  | 0 => known_none F__law_places_in m__law_places_in' b__law_places_in' rfl fun _ => rfl
  | n + 1 => by
    have ih := ok__law_places_in F__law_places_in m__law_places_in' b__law_places_in' z_enumerate z_isinstance z_tuple n
    have G__law_places_in := ih
    have q__law_places_in : Known P w K mg base exc (0 + n + 1) "_law_places_in" 2 (m__law_places_in (n + 1)) := fn_ok (k := 0 + n) (N := N__law_places_in) (r := b__law_places_in (m__law_places_in n)) F__law_places_in m__law_places_in' b__law_places_in' sc__law_places_in rfl (fun cdv A outer s H E B hr => by
      have tk : Takes (cxOf (L2.CX P w) P w K mg base N__law_places_in "_law_places_in" (defScope s__law_places_in) f__law_places_in cdv A outer s H E) (fun cls d _ H => E cls d H) := takes_of rfl rfl rfl rfl
      have px : Passes (L2.CX P w) (cxOf (L2.CX P w) P w K mg base N__law_places_in "_law_places_in" (defScope s__law_places_in) f__law_places_in cdv A outer s H E) E := passD tk
      have po : PassesOwn (model P w) (A.deeper (envOfC "_law_places_in" (defScope s__law_places_in) s.heap.objs.size f__law_places_in cdv)) (envOfC "_law_places_in" (defScope s__law_places_in) s.heap.objs.size f__law_places_in cdv) (cxOf (L2.CX P w) P w K mg base N__law_places_in "_law_places_in" (defScope s__law_places_in) f__law_places_in cdv A outer s H E).xe := passes_of rfl
      exact ⟨_, (dss_cons (ds_set 2 sc__law_places_in.nd (de_lst (da_cons (de_var 1) da_nil))) (dss_cons (ds_if (dt_val (fr := true) (de_isi (fs := true) isi_tuple z_isinstance z_tuple (by decide +kernel) (de_var 0))) (dss_one (ds_for (vs := [3, 4]) po rfl (di_enum z_enumerate (da_cons (de_var 0) da_nil)) (dg_tup rfl (dgs_cons (dg_name 3 sc__law_places_in.nd) (dgs_cons (dg_name 4 sc__law_places_in.nd) dgs_nil))) (dss_one (ds_set 2 sc__law_places_in.nd (de_op os_add op_addQ (de_var 2) (de_call G__law_places_in (hr.mono (by omega)) px (da_cons (de_var 4) (da_cons (de_op os_add op_addQ (de_var 1) (de_tup (da_cons (de_var 3) da_nil))) da_nil)))))))) dss_nil) (dss_one (ds_ret (fr := true) (de_var 2)))))⟩)
    exact q__law_places_in
theorem ok__law_otherwise {f__law_otherwise : Addr} {fd__law_otherwise : FuncData} (F__law_otherwise : Fun K "_law_otherwise" "_law_otherwise" s__law_otherwise f__law_otherwise fd__law_otherwise) (m__law_otherwise' : mg "_law_otherwise" = some (.ref f__law_otherwise)) (b__law_otherwise' : Binds K fd__law_otherwise ["bent_one", "bent_number"] []) (z_bool : mg "bool" = none) (z_int : mg "int" = none) (z_isinstance : mg "isinstance" = none) (z_list : mg "list" = none) (z_str : mg "str" = none) (z_tuple : mg "tuple" = none) : Known P w K mg base exc 1 "_law_otherwise" 2 m__law_otherwise :=
  fn_ok (k := 0) (N := N__law_otherwise) (r := b__law_otherwise) F__law_otherwise m__law_otherwise' b__law_otherwise' sc__law_otherwise rfl (fun cdv A outer s H E B hr => by
      have tk : Takes (cxOf (L2.CX P w) P w K mg base N__law_otherwise "_law_otherwise" (defScope s__law_otherwise) f__law_otherwise cdv A outer s H E) (fun cls d _ H => E cls d H) := takes_of rfl rfl rfl rfl
      have px : Passes (L2.CX P w) (cxOf (L2.CX P w) P w K mg base N__law_otherwise "_law_otherwise" (defScope s__law_otherwise) f__law_otherwise cdv A outer s H E) E := passD tk
      have po : PassesOwn (model P w) (A.deeper (envOfC "_law_otherwise" (defScope s__law_otherwise) s.heap.objs.size f__law_otherwise cdv)) (envOfC "_law_otherwise" (defScope s__law_otherwise) s.heap.objs.size f__law_otherwise cdv) (cxOf (L2.CX P w) P w K mg base N__law_otherwise "_law_otherwise" (defScope s__law_otherwise) f__law_otherwise cdv A outer s H E).xe := passes_of rfl
      exact ⟨_, (dss_cons (ds_if (dt_val (fr := true) (de_isi (fs := true) isi_tuple z_isinstance z_tuple (by decide +kernel) (de_var 0))) (dss_cons (ds_set 2 sc__law_otherwise.nd (de_lst (da_cons (de_callTy cs_list call_list_of z_list (by decide +kernel) (da_cons (de_var 0) da_nil)) (da_cons (de_callTy cs_list call_list_of z_list (by decide +kernel) (da_cons (de_var 0) da_nil)) (da_cons (de_op os_add op_addQ (de_var 0) (de_slice (de_var 0) do_none (do_some (fr := true) de_int))) da_nil))))) (dss_one (ds_ret (fr := true) (de_ix (de_op os_add op_addQ (de_var 2) (de_lst (da_cons (de_slice (de_var 0) (do_some (fr := true) de_int) do_none) (da_cons (de_lst (da_cons (de_var 0) da_nil)) da_nil)))) (de_op os_mod op_mod (de_var 1) de_int))))) dss_nil) (dss_cons (ds_if (dt_val (fr := true) (de_isi (fs := true) isi_bool z_isinstance z_bool (by decide +kernel) (de_var 0))) (dss_one (ds_ret (fr := true) (de_ix (de_lst (da_cons (de_callTy cs_int call_int1 z_int (by decide +kernel) (da_cons (de_var 0) da_nil)) (da_cons de_non (da_cons (de_callTy cs_str call_str_int z_str (by decide +kernel) (da_cons (de_var 0) da_nil)) da_nil)))) (de_op os_mod op_mod (de_var 1) de_int)))) dss_nil) (dss_cons (ds_if (dt_val (fr := true) (de_isi (fs := true) isi_int z_isinstance z_int (by decide +kernel) (de_var 0))) (dss_cons (ds_set 2 sc__law_otherwise.nd (de_lst (da_cons de_bl (da_cons de_non (da_cons (de_callTy cs_str call_str_int z_str (by decide +kernel) (da_cons (de_var 0) da_nil)) (da_cons (de_tup (da_cons (de_var 0) da_nil)) da_nil)))))) (dss_one (ds_ret (fr := true) (de_ix (de_op os_add op_addQ (de_var 2) (de_lst (da_cons (de_op os_sub op_sub (de_neg de_int) (de_var 0)) da_nil))) (de_op os_mod op_mod (de_var 1) de_int))))) dss_nil) (dss_one (ds_ret (fr := true) (de_ix (de_lst (da_cons de_non (da_cons (de_tup (da_cons (de_var 0) da_nil)) (da_cons (de_lst (da_cons (de_var 0) da_nil)) (da_cons de_str (da_cons de_int da_nil)))))) (de_op os_mod op_mod (de_var 1) de_int)))))))⟩)
theorem ok__law_put_at {f__law_put_at : Addr} {oc__law_put_at kV__law_put_at doc__law_put_at pm__law_put_at ct__law_put_at cd__law_put_at : Value} {an__law_put_at od__law_put_at : Option Addr} {osl__law_put_at : Array (Option Value)} (plk : K.lookup f__law_put_at = some ⟨oc__law_put_at, od__law_put_at, .func (PySem.W.fnOf "_law_put_at" "_law_put_at" (defArgs s__law_put_at) (defBody s__law_put_at) (defScope s__law_put_at) .none kV__law_put_at doc__law_put_at pm__law_put_at an__law_put_at cd__law_put_at ct__law_put_at), osl__law_put_at⟩) (pcd : PySem.W.codeIn K cd__law_put_at "_law_put_at" = true) (m__law_put_at' : mg "_law_put_at" = some (.ref f__law_put_at)) (kp__law_put_at : PySem.W.keepIn K (.ref f__law_put_at) = true) (pb : Binds K (PySem.W.fnOf "_law_put_at" "_law_put_at" (defArgs s__law_put_at) (defBody s__law_put_at) (defScope s__law_put_at) .none kV__law_put_at doc__law_put_at pm__law_put_at an__law_put_at cd__law_put_at ct__law_put_at) ["bent_one", "bent_way", "bent_by"] [])
    {f : Addr} {F : NF} {e0 : Expr} {fs : List Str} {ws : List (Option V)} {h : List D → R D} (L : LOk P w K mg base 2 f F e0 fs ws (spD K exc 1 h)) : ∀ n : Nat, PutOk P w K mg base (2 + n) f__law_put_at f F e0 fs ws (spP K exc f (m__law_put_at n f h))
  | 0 => put_none fun _ => rfl
  | n + 1 => by
    have G__law_put_at := ok__law_put_at plk pcd m__law_put_at' kp__law_put_at pb L n
    exact put_ok (k := 2 + n) (N := N__law_put_at) (r := b__law_put_at f h (m__law_put_at n f h)) plk pcd pb sc__law_put_at rfl (fun A outer s H E B C hr => by
      have tk : Takes (cxOf (L2.CX P w) P w K mg base N__law_put_at "_law_put_at" (defScope s__law_put_at) f__law_put_at cd__law_put_at A outer s H E) (fun cls d _ H => E cls d H) := takes_of rfl rfl rfl rfl
      have px : Passes (L2.CX P w) (cxOf (L2.CX P w) P w K mg base N__law_put_at "_law_put_at" (defScope s__law_put_at) f__law_put_at cd__law_put_at A outer s H E) E := passD tk
      have po : PassesOwn (model P w) (A.deeper (envOfC "_law_put_at" (defScope s__law_put_at) s.heap.objs.size f__law_put_at cd__law_put_at)) (envOfC "_law_put_at" (defScope s__law_put_at) s.heap.objs.size f__law_put_at cd__law_put_at) (cxOf (L2.CX P w) P w K mg base N__law_put_at "_law_put_at" (defScope s__law_put_at) f__law_put_at cd__law_put_at A outer s H E).xe := passes_of rfl
      exact ⟨_, (dss_cons (ds_if (dt_cmp (fr := true) os_eq (op_eqD (hu64 hr)) (de_var 1) (de_tup da_nil) (nomark _)) (dss_one (ds_ret (fr := true) (de_lam 2 L C (hr.mono (by omega)) px (da_cons (de_var 0) da_nil)))) dss_nil) (dss_cons (ds_set 3 sc__law_put_at.nd (de_ix (de_var 1) de_int)) (dss_cons (ds_set 4 sc__law_put_at.nd (de_put 2 G__law_put_at C (hr.mono (by omega)) m__law_put_at' kp__law_put_at px (de_ix (de_var 0) (de_var 3)) (de_slice (de_var 1) (do_some (fr := true) de_int) do_none))) (dss_one (ds_ret (fr := true) (de_op os_add op_addQ (de_op os_add op_addQ (de_slice (de_var 0) do_none (do_some (fr := true) (de_var 3))) (de_tup (da_cons (de_var 4) da_nil))) (de_slice (de_var 0) (do_some (fr := true) (de_op os_add op_addQ (de_var 3) de_int)) do_none)))))))⟩)
abbrev q_tb : Str := (("_law_spoilt" : Str) ++ ".<locals>.") ++ "<lambda>"
theorem ok__law_spoilt {c_tb P_tb : Addr} {f__law_spoilt : Addr} {oc__law_spoilt kV__law_spoilt doc__law_spoilt pm__law_spoilt ct__law_spoilt : Value} {an__law_spoilt od__law_spoilt : Option Addr} {osl__law_spoilt : Array (Option Value)} (lk : K.lookup f__law_spoilt = some ⟨oc__law_spoilt, od__law_spoilt, .func (PySem.W.fnOf "_law_spoilt" "_law_spoilt" (defArgs s__law_spoilt) (defBody s__law_spoilt) (defScope s__law_spoilt) .none kV__law_spoilt doc__law_spoilt pm__law_spoilt an__law_spoilt (.ref c_tb) ct__law_spoilt), osl__law_spoilt⟩) (hcd : PySem.W.codeIn K (.ref c_tb) "_law_spoilt" = true) (m__law_spoilt' : mg "_law_spoilt" = some (.ref f__law_spoilt)) (kp_ : PySem.W.keepIn K (.ref f__law_spoilt) = true) (b__law_spoilt' : Binds K (PySem.W.fnOf "_law_spoilt" "_law_spoilt" (defArgs s__law_spoilt) (defBody s__law_spoilt) (defScope s__law_spoilt) .none kV__law_spoilt doc__law_spoilt pm__law_spoilt an__law_spoilt (.ref c_tb) ct__law_spoilt) ["thing", "number", "down"] []) (TB : TabB base mg c_tb P_tb)
    {f__law_put_at : Addr} {oc__law_put_at kV__law_put_at doc__law_put_at pm__law_put_at ct__law_put_at cd__law_put_at : Value} {an__law_put_at od__law_put_at : Option Addr} {osl__law_put_at : Array (Option Value)} (plk : K.lookup f__law_put_at = some ⟨oc__law_put_at, od__law_put_at, .func (PySem.W.fnOf "_law_put_at" "_law_put_at" (defArgs s__law_put_at) (defBody s__law_put_at) (defScope s__law_put_at) .none kV__law_put_at doc__law_put_at pm__law_put_at an__law_put_at cd__law_put_at ct__law_put_at), osl__law_put_at⟩) (pcd : PySem.W.codeIn K cd__law_put_at "_law_put_at" = true) (m__law_put_at' : mg "_law_put_at" = some (.ref f__law_put_at)) (pk : PySem.W.keepIn K (.ref f__law_put_at) = true) (pb : Binds K (PySem.W.fnOf "_law_put_at" "_law_put_at" (defArgs s__law_put_at) (defBody s__law_put_at) (defScope s__law_put_at) .none kV__law_put_at doc__law_put_at pm__law_put_at an__law_put_at cd__law_put_at ct__law_put_at) ["bent_one", "bent_way", "bent_by"] []) (G__law_places_in : Known P w K mg base exc 14 "_law_places_in" 2 (m__law_places_in 14)) (G__law_otherwise : Known P w K mg base exc 1 "_law_otherwise" 2 m__law_otherwise) (z_len : mg "len" = none) : KnownT P w K mg base exc P_tb q_tb 17 "_law_spoilt" 3 m__law_spoilt :=
  fn_okTL (k := 16) (N := N__law_spoilt) (r := b__law_spoilt) lk hcd m__law_spoilt' kp_ b__law_spoilt' sc__law_spoilt rfl (fun A outer s H E B hr => by
      have tk : Takes (cxOf (L2.CX P w) P w K mg base N__law_spoilt "_law_spoilt" (defScope s__law_spoilt) f__law_spoilt (.ref c_tb) A outer s H E) (fun cls d _ H => E cls d H) := takes_of rfl rfl rfl rfl
      have px : Passes (L2.CX P w) (cxOf (L2.CX P w) P w K mg base N__law_spoilt "_law_spoilt" (defScope s__law_spoilt) f__law_spoilt (.ref c_tb) A outer s H E) E := passD tk
      have po : PassesOwn (model P w) (A.deeper (envOfC "_law_spoilt" (defScope s__law_spoilt) s.heap.objs.size f__law_spoilt (.ref c_tb))) (envOfC "_law_spoilt" (defScope s__law_spoilt) s.heap.objs.size f__law_spoilt (.ref c_tb)) (cxOf (L2.CX P w) P w K mg base N__law_spoilt "_law_spoilt" (defScope s__law_spoilt) f__law_spoilt (.ref c_tb) A outer s H E).xe := passes_of rfl
      exact ⟨_, (dss_cons (ds_set 3 sc__law_spoilt.nd (de_call G__law_places_in (hr.mono (by decide)) px (da_cons (de_var 0) (da_cons (de_tup da_nil) da_nil)))) (dss_cons (ds_set 4 sc__law_spoilt.nd (de_ix (de_var 3) (de_op os_mod op_mod (de_var 1) (de_len (fr := true) z_len (da_cons (de_var 3) da_nil))))) (dss_one (ds_ret (fr := true) (de_sp (q := q_tb) (sc := defScope s__law_spoilt) 1 (fun f c n => ok__law_put_at plk pcd m__law_put_at' pk pb (lok_l (x := "bent_part") (y := "number") (k := 1) (nscope_by (by decide +kernel)) (fun q cl pm cv ctv us hu => match us, hu with | [u], _ => rfl) (fun A outer s H E B hr => ⟨_, (de_call G__law_otherwise (hr.mono (by decide)) (passD (takes_of rfl rfl rfl rfl)) (da_cons (de_var 0) (da_cons (de_op os_fdiv op_fdiv (de_var 1) de_int) da_nil)))⟩) n) 14) TB (by decide +kernel) (hr.mono (by decide)) m__law_put_at' pk px (de_var 0) (de_var 4))))))⟩)
theorem ok__law_once {P_tb : Addr} {f__law_once : Addr} {fd__law_once : FuncData} (F__law_once : Fun K "_law_once" "_law_once" s__law_once f__law_once fd__law_once) (m__law_once' : mg "_law_once" = some (.ref f__law_once)) (b__law_once' : Binds K fd__law_once ["script"] []) (G__law_mixed : Known P w K mg base exc 2 "_law_mixed" 2 m__law_mixed) (G__law_rows : Known P w K mg base exc 2 "_law_rows" 2 m__law_rows) (G__law_tree : Known P w K mg base exc 13 "_law_tree" 2 (m__law_tree 12)) (G__law_spoilt : KnownT P w K mg base exc P_tb q_tb 17 "_law_spoilt" 3 m__law_spoilt) (G__law_edges : Known P w K mg base exc 1 "_law_edges" 1 m__law_edges) (G_are_rows : Known P w K mg base exc 4 "are_rows" 1 m_are_rows) (G_is_tree : Known P w K mg base exc 21 "is_tree" 1 (m_is_tree 20)) (G__law_are_rows : Known P w K mg base exc 2 "_law_are_rows" 1 m__law_are_rows) (G__law_is_tree : Known P w K mg base exc 21 "_law_is_tree" 1 (m__law_is_tree 20)) (z_bool : mg "bool" = none) (z_isinstance : mg "isinstance" = none) : KnownT P w K mg base exc P_tb q_tb 22 "_law_once" 1 m__law_once :=
  fn_okT (k := 21) (N := N__law_once) (r := b__law_once) F__law_once m__law_once' b__law_once' sc__law_once rfl (fun cdv A outer s H E B hr => by
      have tk : Takes (cxOf (L2.CX P w) P w K mg base N__law_once "_law_once" (defScope s__law_once) f__law_once cdv A outer s H E) (fun cls d _ H => E cls d H) := takes_of rfl rfl rfl rfl
      have px : Passes (L2.CX P w) (cxOf (L2.CX P w) P w K mg base N__law_once "_law_once" (defScope s__law_once) f__law_once cdv A outer s H E) E := passD tk
      have po : PassesOwn (model P w) (A.deeper (envOfC "_law_once" (defScope s__law_once) s.heap.objs.size f__law_once cdv)) (envOfC "_law_once" (defScope s__law_once) s.heap.objs.size f__law_once cdv) (cxOf (L2.CX P w) P w K mg base N__law_once "_law_once" (defScope s__law_once) f__law_once cdv A outer s H E).xe := passes_of rfl
      exact ⟨_, (dss_cons (ds_set 1 sc__law_once.nd (de_call G__law_mixed (hr.mono (by decide)) px (da_cons (de_var 0) (da_cons de_int da_nil)))) (dss_cons (ds_set 2 sc__law_once.nd (de_call G__law_rows (hr.mono (by decide)) px (da_cons (de_call G__law_mixed (hr.mono (by decide)) px (da_cons (de_var 0) (da_cons de_int da_nil))) (da_cons de_int da_nil)))) (dss_cons (ds_set 3 sc__law_once.nd (de_call G__law_tree (hr.mono (by decide)) px (da_cons (de_call G__law_mixed (hr.mono (by decide)) px (da_cons (de_var 0) (da_cons de_int da_nil))) (da_cons de_int da_nil)))) (dss_cons (ds_if (DW.dt (dw_or (dt_cmp (fr := true) os_not op_notQ (de_call G_are_rows (hr.mono (by decide)) px (da_cons (de_var 2) da_nil)) de_bl (nomark _)) (dw_or1 (dt_cmp (fr := true) os_not op_notQ (de_call G_is_tree (hr.mono (by decide)) px (da_cons (de_var 3) da_nil)) de_bl (nomark _))))) (dss_one (ds_ret (fr := true) de_bl)) dss_nil) (dss_cons (ds_if (dt_cmp (fr := true) os_cmp op_gtQ (de_op os_mod op_mod (de_var 1) de_int) de_int (nomark _)) (dss_cons (ds_set 2 sc__law_once.nd (de_callT G__law_spoilt (hr.mono (by decide)) px (da_cons (de_var 2) (da_cons (de_call G__law_mixed (hr.mono (by decide)) px (da_cons (de_var 0) (da_cons de_int da_nil))) (da_cons (de_op os_mod op_mod (de_op os_fdiv op_fdiv (de_var 1) de_int) de_int) da_nil))))) (dss_one (ds_set 3 sc__law_once.nd (de_callT G__law_spoilt (hr.mono (by decide)) px (da_cons (de_var 3) (da_cons (de_call G__law_mixed (hr.mono (by decide)) px (da_cons (de_var 0) (da_cons de_int da_nil))) (da_cons (de_op os_mod op_mod (de_op os_fdiv op_fdiv (de_var 1) de_int) de_int) da_nil))))))) dss_nil) (dss_cons (ds_for (vs := [4]) po rfl (di_seq (de_op os_add op_addQ (de_call G__law_edges (hr.mono (by decide)) px (da_cons (de_call G__law_mixed (hr.mono (by decide)) px (da_cons (de_var 0) (da_cons de_int da_nil))) da_nil)) (de_lst (da_cons (de_var 2) (da_cons (de_var 3) da_nil))))) (dg_name 4 sc__law_once.nd) (dss_cons (ds_set 5 sc__law_once.nd (de_call G_are_rows (hr.mono (by decide)) px (da_cons (de_var 4) da_nil))) (dss_cons (ds_if (DW.dt (dw_or (dt_not (dt_val (fr := true) (de_isi (fs := true) isi_bool z_isinstance z_bool (by decide +kernel) (de_var 5)))) (dw_or1 (dt_cmp (fr := true) os_ne (op_neD (hu64 hr)) (de_var 5) (de_call G__law_are_rows (hr.mono (by decide)) px (da_cons (de_var 4) da_nil)) (nomark _))))) (dss_one (ds_ret (fr := true) de_bl)) dss_nil) (dss_cons (ds_set 5 sc__law_once.nd (de_call G_is_tree (hr.mono (by decide)) px (da_cons (de_var 4) da_nil))) (dss_one (ds_if (DW.dt (dw_or (dt_not (dt_val (fr := true) (de_isi (fs := true) isi_bool z_isinstance z_bool (by decide +kernel) (de_var 5)))) (dw_or1 (dt_cmp (fr := true) os_ne (op_neD (hu64 hr)) (de_var 5) (de_call G__law_is_tree (hr.mono (by decide)) px (da_cons (de_var 4) da_nil)) (nomark _))))) (dss_one (ds_ret (fr := true) de_bl)) dss_nil)))))) (dss_one (ds_ret (fr := true) de_bl))))))))⟩)
theorem ok_law {P_tb f_law : Addr} {fd_law : FuncData} (F_law : Fun K "law" "law" s_law f_law fd_law) (G__law_once : KnownT P w K mg base exc P_tb q_tb 22 "_law_once" 1 m__law_once) (z_range : mg "range" = none) : FnOk P w K mg base (L2.CX P w) 23 f_law fd_law ["script"] (spT K P_tb m_law) :=
  law_okT2 (q := q_tb) (exc := exc) (k := 22) (N := N_law) (r := b_law) F_law sc_law rfl (fun cdv A outer s H E B hr => by
      have tk : Takes (cxOf (L2.CX P w) P w K mg base N_law "law" (defScope s_law) f_law cdv A outer s H E) (fun cls d _ H => E cls d H) := takes_of rfl rfl rfl rfl
      have px : Passes (L2.CX P w) (cxOf (L2.CX P w) P w K mg base N_law "law" (defScope s_law) f_law cdv A outer s H E) E := passD tk
      have po : PassesOwn (model P w) (A.deeper (envOfC "law" (defScope s_law) s.heap.objs.size f_law cdv)) (envOfC "law" (defScope s_law) s.heap.objs.size f_law cdv) (cxOf (L2.CX P w) P w K mg base N_law "law" (defScope s_law) f_law cdv A outer s H E).xe := passes_of rfl
      exact ⟨_, (dss_cons (ds_for (vs := [1]) po rfl (di_range1 (fs := true) z_range (da_cons de_int da_nil)) (dg_name 1 sc_law.nd) (dss_one (ds_if (dt_not (dt_val (fr := true) (de_callT G__law_once (hr.mono (by decide)) px (da_cons (de_op os_add op_addQ (de_lc [("bent_cell", 2)] rfl sc_law.nd (di_seq (de_var 0)) (blkOk_by (N := N_law) (sc := defScope s_law) (by decide +kernel)) (fun _ _ _ _ _ _ => ⟨_, (dg_name 2 sc_law.nd)⟩) (fun _ _ _ _ _ _ => ⟨_, dts_nil⟩) (fun _ _ _ _ _ _ => ⟨_, (de_op os_add op_addQ (de_var 2) (de_op os_mul op_mulQ de_int (de_var 1)))⟩)) (de_lst (da_cons (de_var 1) da_nil))) da_nil)))) (dss_one (ds_ret (fr := true) de_bl)) dss_nil))) (dss_one (ds_ret (fr := true) de_bl)))⟩)
end
end B
set_option Elab.async false
set_option linter.all false
set_option maxRecDepth 100000
namespace B
open PySem L2 DL PyProof.Rows LamX
set_option maxHeartbeats 4000000 in
theorem all_mk {l : PySem.W.OpenLaw} {w : World} {K : PySem.W.Frag} {h : Heap} {mg : Str → Option Value} {fa : Addr} (X : K.In h) (G : h.Ns mainGlobals mg) (hfa : mg "law" = some (.ref fa))
    {f0 : Addr} {od0 an0 : Option Addr} {sl0 : Array (Option Value)} {oc0 kV0 dc0 pm0 cd0 ct0 : Value} {f1 : Addr} {od1 an1 : Option Addr} {sl1 : Array (Option Value)} {oc1 kV1 dc1 pm1 cd1 ct1 : Value} {f2 : Addr} {od2 an2 : Option Addr} {sl2 : Array (Option Value)} {oc2 kV2 dc2 pm2 cd2 ct2 : Value} {f3 : Addr} {od3 an3 : Option Addr} {sl3 : Array (Option Value)} {oc3 kV3 dc3 pm3 cd3 ct3 : Value} {f4 : Addr} {od4 an4 : Option Addr} {sl4 : Array (Option Value)} {oc4 kV4 dc4 pm4 cd4 ct4 : Value} {f5 : Addr} {od5 an5 : Option Addr} {sl5 : Array (Option Value)} {oc5 kV5 dc5 pm5 cd5 ct5 : Value} {f6 : Addr} {od6 an6 : Option Addr} {sl6 : Array (Option Value)} {oc6 kV6 dc6 pm6 cd6 ct6 : Value} {f7 : Addr} {od7 an7 : Option Addr} {sl7 : Array (Option Value)} {oc7 kV7 dc7 pm7 cd7 ct7 : Value} {f8 : Addr} {od8 an8 : Option Addr} {sl8 : Array (Option Value)} {oc8 kV8 dc8 pm8 cd8 ct8 : Value} {f9 : Addr} {od9 an9 : Option Addr} {sl9 : Array (Option Value)} {oc9 kV9 dc9 pm9 cd9 ct9 : Value} {f10 : Addr} {od10 an10 : Option Addr} {sl10 : Array (Option Value)} {oc10 kV10 dc10 pm10 cd10 ct10 : Value} {f11 : Addr} {od11 an11 : Option Addr} {sl11 : Array (Option Value)} {oc11 kV11 dc11 pm11 cd11 ct11 : Value} {f12 : Addr} {od12 an12 : Option Addr} {sl12 : Array (Option Value)} {oc12 kV12 dc12 pm12 cd12 ct12 : Value} {f13 : Addr} {od13 an13 : Option Addr} {sl13 : Array (Option Value)} {oc13 kV13 dc13 pm13 cd13 ct13 : Value} {f14 : Addr} {od14 an14 : Option Addr} {sl14 : Array (Option Value)} {oc14 kV14 dc14 pm14 cd14 ct14 : Value} {f15 : Addr} {od15 an15 : Option Addr} {sl15 : Array (Option Value)} {oc15 kV15 dc15 pm15 cd15 ct15 : Value} {f16 : Addr} {od16 an16 : Option Addr} {sl16 : Array (Option Value)} {oc16 kV16 dc16 pm16 cd16 ct16 : Value} {f17 : Addr} {od17 an17 : Option Addr} {sl17 : Array (Option Value)} {oc17 kV17 dc17 pm17 cd17 ct17 : Value} {f18 : Addr} {od18 an18 : Option Addr} {sl18 : Array (Option Value)} {oc18 kV18 dc18 pm18 cd18 ct18 : Value} {f19 : Addr} {od19 an19 : Option Addr} {sl19 : Array (Option Value)} {oc19 kV19 dc19 pm19 cd19 ct19 : Value} {f20 : Addr} {od20 an20 : Option Addr} {sl20 : Array (Option Value)} {oc20 kV20 dc20 pm20 cd20 ct20 : Value} {f21 : Addr} {od21 an21 : Option Addr} {sl21 : Array (Option Value)} {oc21 kV21 dc21 pm21 cd21 ct21 : Value} {f22 : Addr} {od22 an22 : Option Addr} {sl22 : Array (Option Value)} {oc22 kV22 dc22 pm22 cd22 ct22 : Value} {f23 : Addr} {od23 an23 : Option Addr} {sl23 : Array (Option Value)} {oc23 kV23 dc23 pm23 cd23 ct23 : Value} {ta0 : Addr} {tod0 : Option Addr} {tus0 : List Value} {tn0 : Nat} {tsl0 : Array (Option Value)} {t1 : Tok} {t2 : Tok} {t3 : Tok} {t4 : Tok} {t5 : Tok} {cL PL : Addr} {ocL : Value} {odL : Option Addr} {slL : Array (Option Value)} {vsL : Array Value}
    (a0 : PySem.W.nsIn K mainGlobals "is_name" = some (some (.ref f0))) (l0 : K.lookup f0 = some ⟨oc0, od0, .func (PySem.W.fnOf "is_name" "is_name" (defArgs s_is_name) (defBody s_is_name) (defScope s_is_name) .none kV0 dc0 pm0 an0 cd0 ct0), sl0⟩) (c0 : PySem.W.codeIn K cd0 "is_name" = true) (k0 : PySem.W.keepIn K (.ref f0) = true)
    (a1 : PySem.W.nsIn K mainGlobals "is_line" = some (some (.ref f1))) (l1 : K.lookup f1 = some ⟨oc1, od1, .func (PySem.W.fnOf "is_line" "is_line" (defArgs s_is_line) (defBody s_is_line) (defScope s_is_line) .none kV1 dc1 pm1 an1 cd1 ct1), sl1⟩) (c1 : PySem.W.codeIn K cd1 "is_line" = true) (k1 : PySem.W.keepIn K (.ref f1) = true)
    (a2 : PySem.W.nsIn K mainGlobals "is_border" = some (some (.ref f2))) (l2 : K.lookup f2 = some ⟨oc2, od2, .func (PySem.W.fnOf "is_border" "is_border" (defArgs s_is_border) (defBody s_is_border) (defScope s_is_border) .none kV2 dc2 pm2 an2 cd2 ct2), sl2⟩) (c2 : PySem.W.codeIn K cd2 "is_border" = true) (k2 : PySem.W.keepIn K (.ref f2) = true)
    (a3 : PySem.W.nsIn K mainGlobals "is_row" = some (some (.ref f3))) (l3 : K.lookup f3 = some ⟨oc3, od3, .func (PySem.W.fnOf "is_row" "is_row" (defArgs s_is_row) (defBody s_is_row) (defScope s_is_row) .none kV3 dc3 pm3 an3 cd3 ct3), sl3⟩) (c3 : PySem.W.codeIn K cd3 "is_row" = true) (k3 : PySem.W.keepIn K (.ref f3) = true)
    (a4 : PySem.W.nsIn K mainGlobals "are_rows" = some (some (.ref f4))) (l4 : K.lookup f4 = some ⟨oc4, od4, .func (PySem.W.fnOf "are_rows" "are_rows" (defArgs s_are_rows) (defBody s_are_rows) (defScope s_are_rows) .none kV4 dc4 pm4 an4 cd4 ct4), sl4⟩) (c4 : PySem.W.codeIn K cd4 "are_rows" = true) (k4 : PySem.W.keepIn K (.ref f4) = true)
    (a5 : PySem.W.nsIn K mainGlobals "is_tree" = some (some (.ref f5))) (l5 : K.lookup f5 = some ⟨oc5, od5, .func (PySem.W.fnOf "is_tree" "is_tree" (defArgs s_is_tree) (defBody s_is_tree) (defScope s_is_tree) .none kV5 dc5 pm5 an5 cd5 ct5), sl5⟩) (c5 : PySem.W.codeIn K cd5 "is_tree" = true) (k5 : PySem.W.keepIn K (.ref f5) = true)
    (a6 : PySem.W.nsIn K mainGlobals "is_letter" = some (some (.ref f6))) (l6 : K.lookup f6 = some ⟨oc6, od6, .func (PySem.W.fnOf "is_letter" "is_letter" (defArgs s_is_letter) (defBody s_is_letter) (defScope s_is_letter) .none kV6 dc6 pm6 an6 cd6 ct6), sl6⟩) (c6 : PySem.W.codeIn K cd6 "is_letter" = true) (k6 : PySem.W.keepIn K (.ref f6) = true)
    (a7 : PySem.W.nsIn K mainGlobals "_law_cell_at" = some (some (.ref f7))) (l7 : K.lookup f7 = some ⟨oc7, od7, .func (PySem.W.fnOf "_law_cell_at" "_law_cell_at" (defArgs s__law_cell_at) (defBody s__law_cell_at) (defScope s__law_cell_at) .none kV7 dc7 pm7 an7 cd7 ct7), sl7⟩) (c7 : PySem.W.codeIn K cd7 "_law_cell_at" = true) (k7 : PySem.W.keepIn K (.ref f7) = true)
    (a8 : PySem.W.nsIn K mainGlobals "_law_mixed" = some (some (.ref f8))) (l8 : K.lookup f8 = some ⟨oc8, od8, .func (PySem.W.fnOf "_law_mixed" "_law_mixed" (defArgs s__law_mixed) (defBody s__law_mixed) (defScope s__law_mixed) .none kV8 dc8 pm8 an8 cd8 ct8), sl8⟩) (c8 : PySem.W.codeIn K cd8 "_law_mixed" = true) (k8 : PySem.W.keepIn K (.ref f8) = true)
    (a9 : PySem.W.nsIn K mainGlobals "_law_drawn" = some (some (.ref f9))) (l9 : K.lookup f9 = some ⟨oc9, od9, .func (PySem.W.fnOf "_law_drawn" "_law_drawn" (defArgs s__law_drawn) (defBody s__law_drawn) (defScope s__law_drawn) .none kV9 dc9 pm9 an9 cd9 ct9), sl9⟩) (c9 : PySem.W.codeIn K cd9 "_law_drawn" = true) (k9 : PySem.W.keepIn K (.ref f9) = true)
    (a10 : PySem.W.nsIn K mainGlobals "_law_row" = some (some (.ref f10))) (l10 : K.lookup f10 = some ⟨oc10, od10, .func (PySem.W.fnOf "_law_row" "_law_row" (defArgs s__law_row) (defBody s__law_row) (defScope s__law_row) .none kV10 dc10 pm10 an10 cd10 ct10), sl10⟩) (c10 : PySem.W.codeIn K cd10 "_law_row" = true) (k10 : PySem.W.keepIn K (.ref f10) = true)
    (a11 : PySem.W.nsIn K mainGlobals "_law_rows" = some (some (.ref f11))) (l11 : K.lookup f11 = some ⟨oc11, od11, .func (PySem.W.fnOf "_law_rows" "_law_rows" (defArgs s__law_rows) (defBody s__law_rows) (defScope s__law_rows) .none kV11 dc11 pm11 an11 cd11 ct11), sl11⟩) (c11 : PySem.W.codeIn K cd11 "_law_rows" = true) (k11 : PySem.W.keepIn K (.ref f11) = true)
    (a12 : PySem.W.nsIn K mainGlobals "_law_tree" = some (some (.ref f12))) (l12 : K.lookup f12 = some ⟨oc12, od12, .func (PySem.W.fnOf "_law_tree" "_law_tree" (defArgs s__law_tree) (defBody s__law_tree) (defScope s__law_tree) .none kV12 dc12 pm12 an12 cd12 ct12), sl12⟩) (c12 : PySem.W.codeIn K cd12 "_law_tree" = true) (k12 : PySem.W.keepIn K (.ref f12) = true)
    (a13 : PySem.W.nsIn K mainGlobals "_law_is_name" = some (some (.ref f13))) (l13 : K.lookup f13 = some ⟨oc13, od13, .func (PySem.W.fnOf "_law_is_name" "_law_is_name" (defArgs s__law_is_name) (defBody s__law_is_name) (defScope s__law_is_name) .none kV13 dc13 pm13 an13 cd13 ct13), sl13⟩) (c13 : PySem.W.codeIn K cd13 "_law_is_name" = true) (k13 : PySem.W.keepIn K (.ref f13) = true)
    (a14 : PySem.W.nsIn K mainGlobals "_law_is_text" = some (some (.ref f14))) (l14 : K.lookup f14 = some ⟨oc14, od14, .func (PySem.W.fnOf "_law_is_text" "_law_is_text" (defArgs s__law_is_text) (defBody s__law_is_text) (defScope s__law_is_text) .none kV14 dc14 pm14 an14 cd14 ct14), sl14⟩) (c14 : PySem.W.codeIn K cd14 "_law_is_text" = true) (k14 : PySem.W.keepIn K (.ref f14) = true)
    (a15 : PySem.W.nsIn K mainGlobals "_law_are_rows" = some (some (.ref f15))) (l15 : K.lookup f15 = some ⟨oc15, od15, .func (PySem.W.fnOf "_law_are_rows" "_law_are_rows" (defArgs s__law_are_rows) (defBody s__law_are_rows) (defScope s__law_are_rows) .none kV15 dc15 pm15 an15 cd15 ct15), sl15⟩) (c15 : PySem.W.codeIn K cd15 "_law_are_rows" = true) (k15 : PySem.W.keepIn K (.ref f15) = true)
    (a16 : PySem.W.nsIn K mainGlobals "_law_is_tree" = some (some (.ref f16))) (l16 : K.lookup f16 = some ⟨oc16, od16, .func (PySem.W.fnOf "_law_is_tree" "_law_is_tree" (defArgs s__law_is_tree) (defBody s__law_is_tree) (defScope s__law_is_tree) .none kV16 dc16 pm16 an16 cd16 ct16), sl16⟩) (c16 : PySem.W.codeIn K cd16 "_law_is_tree" = true) (k16 : PySem.W.keepIn K (.ref f16) = true)
    (a17 : PySem.W.nsIn K mainGlobals "_law_edges" = some (some (.ref f17))) (l17 : K.lookup f17 = some ⟨oc17, od17, .func (PySem.W.fnOf "_law_edges" "_law_edges" (defArgs s__law_edges) (defBody s__law_edges) (defScope s__law_edges) .none kV17 dc17 pm17 an17 cd17 ct17), sl17⟩) (c17 : PySem.W.codeIn K cd17 "_law_edges" = true) (k17 : PySem.W.keepIn K (.ref f17) = true)
    (a18 : PySem.W.nsIn K mainGlobals "_law_places_in" = some (some (.ref f18))) (l18 : K.lookup f18 = some ⟨oc18, od18, .func (PySem.W.fnOf "_law_places_in" "_law_places_in" (defArgs s__law_places_in) (defBody s__law_places_in) (defScope s__law_places_in) .none kV18 dc18 pm18 an18 cd18 ct18), sl18⟩) (c18 : PySem.W.codeIn K cd18 "_law_places_in" = true) (k18 : PySem.W.keepIn K (.ref f18) = true)
    (a19 : PySem.W.nsIn K mainGlobals "_law_otherwise" = some (some (.ref f19))) (l19 : K.lookup f19 = some ⟨oc19, od19, .func (PySem.W.fnOf "_law_otherwise" "_law_otherwise" (defArgs s__law_otherwise) (defBody s__law_otherwise) (defScope s__law_otherwise) .none kV19 dc19 pm19 an19 cd19 ct19), sl19⟩) (c19 : PySem.W.codeIn K cd19 "_law_otherwise" = true) (k19 : PySem.W.keepIn K (.ref f19) = true)
    (a20 : PySem.W.nsIn K mainGlobals "_law_put_at" = some (some (.ref f20))) (l20 : K.lookup f20 = some ⟨oc20, od20, .func (PySem.W.fnOf "_law_put_at" "_law_put_at" (defArgs s__law_put_at) (defBody s__law_put_at) (defScope s__law_put_at) .none kV20 dc20 pm20 an20 cd20 ct20), sl20⟩) (c20 : PySem.W.codeIn K cd20 "_law_put_at" = true) (k20 : PySem.W.keepIn K (.ref f20) = true)
    (a21 : PySem.W.nsIn K mainGlobals "_law_spoilt" = some (some (.ref f21))) (l21 : K.lookup f21 = some ⟨oc21, od21, .func (PySem.W.fnOf "_law_spoilt" "_law_spoilt" (defArgs s__law_spoilt) (defBody s__law_spoilt) (defScope s__law_spoilt) .none kV21 dc21 pm21 an21 cd21 ct21), sl21⟩) (c21 : PySem.W.codeIn K cd21 "_law_spoilt" = true) (k21 : PySem.W.keepIn K (.ref f21) = true)
    (a22 : PySem.W.nsIn K mainGlobals "_law_once" = some (some (.ref f22))) (l22 : K.lookup f22 = some ⟨oc22, od22, .func (PySem.W.fnOf "_law_once" "_law_once" (defArgs s__law_once) (defBody s__law_once) (defScope s__law_once) .none kV22 dc22 pm22 an22 cd22 ct22), sl22⟩) (c22 : PySem.W.codeIn K cd22 "_law_once" = true) (k22 : PySem.W.keepIn K (.ref f22) = true)
    (a23 : PySem.W.nsIn K mainGlobals "law" = some (some (.ref f23))) (l23 : K.lookup f23 = some ⟨oc23, od23, .func (PySem.W.fnOf "law" "law" (defArgs s_law) (defBody s_law) (defScope s_law) .none kV23 dc23 pm23 an23 cd23 ct23), sl23⟩) (c23 : PySem.W.codeIn K cd23 "law" = true) (k23 : PySem.W.keepIn K (.ref f23) = true)
    (z0 : PySem.W.nsIn K mainGlobals "all" = some none)
    (z1 : PySem.W.nsIn K mainGlobals "bool" = some none)
    (z2 : PySem.W.nsIn K mainGlobals "enumerate" = some none)
    (z3 : PySem.W.nsIn K mainGlobals "int" = some none)
    (z4 : PySem.W.nsIn K mainGlobals "isinstance" = some none)
    (z5 : PySem.W.nsIn K mainGlobals "len" = some none)
    (z6 : PySem.W.nsIn K mainGlobals "list" = some none)
    (z7 : PySem.W.nsIn K mainGlobals "range" = some none)
    (z8 : PySem.W.nsIn K mainGlobals "str" = some none)
    (z9 : PySem.W.nsIn K mainGlobals "tuple" = some none)
    (y0 : PySem.W.nsIn K mainGlobals "BORDERS" = some (some (.ref ta0))) (w0 : K.lookup ta0 = some ⟨.type "tuple", tod0, .seq tus0.toArray tn0, tsl0⟩) (v0 : strsIn tus0 [Str.ofString "open", Str.ofString "next", Str.ofString "close"] = true)
    (y1 : PySem.W.nsIn K mainGlobals "LETTERS" = some (some (.str (Str.ofString "abcdefghijklmnopqrstuvwxyz") t1)))
    (y2 : PySem.W.nsIn K mainGlobals "LINE" = some (some (.str (Str.ofString "line") t2)))
    (y3 : PySem.W.nsIn K mainGlobals "MOST_LINE" = some (some (.int 12 t3)))
    (y4 : PySem.W.nsIn K mainGlobals "MOST_NAME" = some (some (.int 4 t4)))
    (y5 : PySem.W.nsIn K mainGlobals "MOST_ROWS" = some (some (.int 14 t5)))
    (xl1 : cd21 = .ref cL) (xl2 : K.lookup cL = some ⟨ocL, odL, .fields vsL, slL⟩) (xl3 : vsL[11]? = some (.ref PL)) (xl4 : K.lookup PL = none)
    : ∃ (fd : FuncData) (c P : Addr), PySem.W.tabIn K "_law_spoilt" = some (c, P) ∧ K.lookup P = none ∧ (∀ (s : Shared) (v : Value), BindsTo s fd ⟨[v], []⟩ [("script", v)]) ∧ ∀ base : Heap, K.In base → base.Ns mainGlobals mg → TabB base mg c P → FnOk l.prog w K mg base (L2.CX l.prog w) 23 fa fd ["script"] (spT K P m_law) := by
  subst xl1
  have e := hfa.symm.trans (PySem.W.mg_of X G a23)
  cases e
  have c_BORDERS : GlobD K mg "BORDERS" k_BORDERS := globT (PySem.W.mg_of X G y0) w0 v0 (by decide)
  have c_LETTERS : GlobD K mg "LETTERS" k_LETTERS := globS (PySem.W.mg_of X G y1)
  have c_LINE : GlobD K mg "LINE" k_LINE := globS (PySem.W.mg_of X G y2)
  have c_MOST_LINE : GlobD K mg "MOST_LINE" k_MOST_LINE := globI (PySem.W.mg_of X G y3)
  have c_MOST_NAME : GlobD K mg "MOST_NAME" k_MOST_NAME := globI (PySem.W.mg_of X G y4)
  have c_MOST_ROWS : GlobD K mg "MOST_ROWS" k_MOST_ROWS := globI (PySem.W.mg_of X G y5)
  have z_all := PySem.W.mg_none_of X G z0
  have z_bool := PySem.W.mg_none_of X G z1
  have z_enumerate := PySem.W.mg_none_of X G z2
  have z_int := PySem.W.mg_none_of X G z3
  have z_isinstance := PySem.W.mg_none_of X G z4
  have z_len := PySem.W.mg_none_of X G z5
  have z_list := PySem.W.mg_none_of X G z6
  have z_range := PySem.W.mg_none_of X G z7
  have z_str := PySem.W.mg_none_of X G z8
  have z_tuple := PySem.W.mg_none_of X G z9
  have F_is_name := fun_mk (st := s_is_name) l0 c0 k0
  have m_is_name' := PySem.W.mg_of X G a0
  have b_is_name' := F_is_name.binds (ps := ["thing"]) fun _ _ _ _ _ _ us hl => match us, hl with | [_], _ => rfl
  have F_is_line := fun_mk (st := s_is_line) l1 c1 k1
  have m_is_line' := PySem.W.mg_of X G a1
  have b_is_line' := F_is_line.binds (ps := ["thing"]) fun _ _ _ _ _ _ us hl => match us, hl with | [_], _ => rfl
  have F_is_border := fun_mk (st := s_is_border) l2 c2 k2
  have m_is_border' := PySem.W.mg_of X G a2
  have b_is_border' := F_is_border.binds (ps := ["thing"]) fun _ _ _ _ _ _ us hl => match us, hl with | [_], _ => rfl
  have F_is_row := fun_mk (st := s_is_row) l3 c3 k3
  have m_is_row' := PySem.W.mg_of X G a3
  have b_is_row' := F_is_row.binds (ps := ["thing"]) fun _ _ _ _ _ _ us hl => match us, hl with | [_], _ => rfl
  have F_are_rows := fun_mk (st := s_are_rows) l4 c4 k4
  have m_are_rows' := PySem.W.mg_of X G a4
  have b_are_rows' := F_are_rows.binds (ps := ["thing"]) fun _ _ _ _ _ _ us hl => match us, hl with | [_], _ => rfl
  have F_is_tree := fun_mk (st := s_is_tree) l5 c5 k5
  have m_is_tree' := PySem.W.mg_of X G a5
  have b_is_tree' := F_is_tree.binds (ps := ["thing"]) fun _ _ _ _ _ _ us hl => match us, hl with | [_], _ => rfl
  have F_is_letter := fun_mk (st := s_is_letter) l6 c6 k6
  have m_is_letter' := PySem.W.mg_of X G a6
  have b_is_letter' := F_is_letter.binds (ps := ["thing"]) fun _ _ _ _ _ _ us hl => match us, hl with | [_], _ => rfl
  have F__law_cell_at := fun_mk (st := s__law_cell_at) l7 c7 k7
  have m__law_cell_at' := PySem.W.mg_of X G a7
  have b__law_cell_at' := F__law_cell_at.binds (ps := ["script", "k"]) fun _ _ _ _ _ _ us hl => match us, hl with | [_, _], _ => rfl
  have F__law_mixed := fun_mk (st := s__law_mixed) l8 c8 k8
  have m__law_mixed' := PySem.W.mg_of X G a8
  have b__law_mixed' := F__law_mixed.binds (ps := ["script", "k"]) fun _ _ _ _ _ _ us hl => match us, hl with | [_, _], _ => rfl
  have F__law_drawn := fun_mk (st := s__law_drawn) l9 c9 k9
  have m__law_drawn' := PySem.W.mg_of X G a9
  have b__law_drawn' := F__law_drawn.binds (ps := ["number", "k"]) fun _ _ _ _ _ _ us hl => match us, hl with | [_, _], _ => rfl
  have F__law_row := fun_mk (st := s__law_row) l10 c10 k10
  have m__law_row' := PySem.W.mg_of X G a10
  have b__law_row' := F__law_row.binds (ps := ["number", "kinds"]) fun _ _ _ _ _ _ us hl => match us, hl with | [_, _], _ => rfl
  have F__law_rows := fun_mk (st := s__law_rows) l11 c11 k11
  have m__law_rows' := PySem.W.mg_of X G a11
  have b__law_rows' := F__law_rows.binds (ps := ["number", "most"]) fun _ _ _ _ _ _ us hl => match us, hl with | [_, _], _ => rfl
  have F__law_tree := fun_mk (st := s__law_tree) l12 c12 k12
  have m__law_tree' := PySem.W.mg_of X G a12
  have b__law_tree' := F__law_tree.binds (ps := ["number", "down"]) fun _ _ _ _ _ _ us hl => match us, hl with | [_, _], _ => rfl
  have F__law_is_name := fun_mk (st := s__law_is_name) l13 c13 k13
  have m__law_is_name' := PySem.W.mg_of X G a13
  have b__law_is_name' := F__law_is_name.binds (ps := ["thing"]) fun _ _ _ _ _ _ us hl => match us, hl with | [_], _ => rfl
  have F__law_is_text := fun_mk (st := s__law_is_text) l14 c14 k14
  have m__law_is_text' := PySem.W.mg_of X G a14
  have b__law_is_text' := F__law_is_text.binds (ps := ["thing"]) fun _ _ _ _ _ _ us hl => match us, hl with | [_], _ => rfl
  have F__law_are_rows := fun_mk (st := s__law_are_rows) l15 c15 k15
  have m__law_are_rows' := PySem.W.mg_of X G a15
  have b__law_are_rows' := F__law_are_rows.binds (ps := ["thing"]) fun _ _ _ _ _ _ us hl => match us, hl with | [_], _ => rfl
  have F__law_is_tree := fun_mk (st := s__law_is_tree) l16 c16 k16
  have m__law_is_tree' := PySem.W.mg_of X G a16
  have b__law_is_tree' := F__law_is_tree.binds (ps := ["thing"]) fun _ _ _ _ _ _ us hl => match us, hl with | [_], _ => rfl
  have F__law_edges := fun_mk (st := s__law_edges) l17 c17 k17
  have m__law_edges' := PySem.W.mg_of X G a17
  have b__law_edges' := F__law_edges.binds (ps := ["number"]) fun _ _ _ _ _ _ us hl => match us, hl with | [_], _ => rfl
  have F__law_places_in := fun_mk (st := s__law_places_in) l18 c18 k18
  have m__law_places_in' := PySem.W.mg_of X G a18
  have b__law_places_in' := F__law_places_in.binds (ps := ["bent_one", "bent_way"]) fun _ _ _ _ _ _ us hl => match us, hl with | [_, _], _ => rfl
  have F__law_otherwise := fun_mk (st := s__law_otherwise) l19 c19 k19
  have m__law_otherwise' := PySem.W.mg_of X G a19
  have b__law_otherwise' := F__law_otherwise.binds (ps := ["bent_one", "bent_number"]) fun _ _ _ _ _ _ us hl => match us, hl with | [_, _], _ => rfl
  have F__law_put_at := fun_mk (st := s__law_put_at) l20 c20 k20
  have m__law_put_at' := PySem.W.mg_of X G a20
  have b__law_put_at' := F__law_put_at.binds (ps := ["bent_one", "bent_way", "bent_by"]) fun _ _ _ _ _ _ us hl => match us, hl with | [_, _, _], _ => rfl
  have F__law_spoilt := fun_mk (st := s__law_spoilt) l21 c21 k21
  have m__law_spoilt' := PySem.W.mg_of X G a21
  have b__law_spoilt' := F__law_spoilt.binds (ps := ["thing", "number", "down"]) fun _ _ _ _ _ _ us hl => match us, hl with | [_, _, _], _ => rfl
  have F__law_once := fun_mk (st := s__law_once) l22 c22 k22
  have m__law_once' := PySem.W.mg_of X G a22
  have b__law_once' := F__law_once.binds (ps := ["script"]) fun _ _ _ _ _ _ us hl => match us, hl with | [_], _ => rfl
  have F_law := fun_mk (st := s_law) l23 c23 k23
  have m_law' := PySem.W.mg_of X G a23
  have b_law' := F_law.binds (ps := ["script"]) fun _ _ _ _ _ _ us hl => match us, hl with | [_], _ => rfl
  refine ⟨PySem.W.fnOf "law" "law" (defArgs s_law) (defBody s_law) (defScope s_law) .none kV23 dc23 pm23 an23 cd23 ct23, cL, PL, tab_in a21 l21 rfl xl2 xl3, xl4, fun s v => .of_eq rfl, fun base _ _ TB => ?_⟩
  let exc : Cn → Value := fun _ => .none
  have G_is_name := ok_is_name (P := l.prog) (w := w) (mg := mg) (base := base) (exc := exc) F_is_name m_is_name' b_is_name' z_all z_isinstance z_len z_str c_LETTERS c_MOST_NAME
  have G_is_line := ok_is_line (P := l.prog) (w := w) (mg := mg) (base := base) (exc := exc) F_is_line m_is_line' b_is_line' z_all z_isinstance z_len z_str c_MOST_LINE
  have G_is_border := ok_is_border (P := l.prog) (w := w) (mg := mg) (base := base) (exc := exc) F_is_border m_is_border' b_is_border' G_is_name z_isinstance z_len z_str z_tuple c_BORDERS
  have G_is_row := ok_is_row (P := l.prog) (w := w) (mg := mg) (base := base) (exc := exc) F_is_row m_is_row' b_is_row' G_is_border G_is_line z_isinstance z_len z_tuple c_LINE
  have G_are_rows := ok_are_rows (P := l.prog) (w := w) (mg := mg) (base := base) (exc := exc) F_are_rows m_are_rows' b_are_rows' G_is_row z_all z_isinstance z_len z_tuple c_MOST_ROWS
  have R_is_tree_is_letter := ok_is_tree_is_letter (P := l.prog) (w := w) (mg := mg) (base := base) (exc := exc) F_is_tree m_is_tree' b_is_tree' F_is_letter m_is_letter' b_is_letter' G_is_line G_is_name z_all z_isinstance z_len z_tuple 20
  have G_is_tree : Known l.prog w K mg base exc 21 "is_tree" 1 (m_is_tree 20) := R_is_tree_is_letter.1
  have G_is_letter : Known l.prog w K mg base exc 21 "is_letter" 1 (m_is_letter 20) := R_is_tree_is_letter.2
  have G__law_cell_at := ok__law_cell_at (P := l.prog) (w := w) (mg := mg) (base := base) (exc := exc) F__law_cell_at m__law_cell_at' b__law_cell_at' z_len
  have G__law_mixed := ok__law_mixed (P := l.prog) (w := w) (mg := mg) (base := base) (exc := exc) F__law_mixed m__law_mixed' b__law_mixed' G__law_cell_at
  have G__law_drawn := ok__law_drawn (P := l.prog) (w := w) (mg := mg) (base := base) (exc := exc) F__law_drawn m__law_drawn' b__law_drawn'
  have G__law_row := ok__law_row (P := l.prog) (w := w) (mg := mg) (base := base) (exc := exc) F__law_row m__law_row' b__law_row'
  have G__law_rows := ok__law_rows (P := l.prog) (w := w) (mg := mg) (base := base) (exc := exc) F__law_rows m__law_rows' b__law_rows' G__law_row G__law_drawn z_range z_tuple
  have R__law_tree := ok__law_tree (P := l.prog) (w := w) (mg := mg) (base := base) (exc := exc) F__law_tree m__law_tree' b__law_tree' G__law_drawn z_range z_tuple 12
  have G__law_tree : Known l.prog w K mg base exc 13 "_law_tree" 2 (m__law_tree 12) := R__law_tree
  have G__law_is_name := ok__law_is_name (P := l.prog) (w := w) (mg := mg) (base := base) (exc := exc) F__law_is_name m__law_is_name' b__law_is_name' z_isinstance z_len z_str
  have G__law_is_text := ok__law_is_text (P := l.prog) (w := w) (mg := mg) (base := base) (exc := exc) F__law_is_text m__law_is_text' b__law_is_text' z_isinstance z_len z_str
  have G__law_are_rows := ok__law_are_rows (P := l.prog) (w := w) (mg := mg) (base := base) (exc := exc) F__law_are_rows m__law_are_rows' b__law_are_rows' G__law_is_text G__law_is_name z_isinstance z_len z_str z_tuple
  have R__law_is_tree := ok__law_is_tree (P := l.prog) (w := w) (mg := mg) (base := base) (exc := exc) F__law_is_tree m__law_is_tree' b__law_is_tree' G__law_is_text G__law_is_name z_isinstance z_len z_tuple 20
  have G__law_is_tree : Known l.prog w K mg base exc 21 "_law_is_tree" 1 (m__law_is_tree 20) := R__law_is_tree
  have G__law_edges := ok__law_edges (P := l.prog) (w := w) (mg := mg) (base := base) (exc := exc) F__law_edges m__law_edges' b__law_edges'
  have R__law_places_in := ok__law_places_in (P := l.prog) (w := w) (mg := mg) (base := base) (exc := exc) F__law_places_in m__law_places_in' b__law_places_in' z_enumerate z_isinstance z_tuple 14
  have G__law_places_in : Known l.prog w K mg base exc 14 "_law_places_in" 2 (m__law_places_in 14) := R__law_places_in
  have G__law_otherwise := ok__law_otherwise (P := l.prog) (w := w) (mg := mg) (base := base) (exc := exc) F__law_otherwise m__law_otherwise' b__law_otherwise' z_bool z_int z_isinstance z_list z_str z_tuple
  have G__law_spoilt := ok__law_spoilt (P := l.prog) (w := w) (mg := mg) (base := base) (exc := exc) l21 c21 m__law_spoilt' k21 b__law_spoilt' TB l20 c20 m__law_put_at' k20 b__law_put_at' G__law_places_in G__law_otherwise z_len
  have G__law_once := ok__law_once (P := l.prog) (w := w) (mg := mg) (base := base) (exc := exc) F__law_once m__law_once' b__law_once' G__law_mixed G__law_rows G__law_tree G__law_spoilt G__law_edges G_are_rows G_is_tree G__law_are_rows G__law_is_tree z_bool z_isinstance
  exact ok_law (P := l.prog) (w := w) (mg := mg) (base := base) (exc := exc) F_law G__law_once z_range
end B
open PySem PySem.W PyProof.Rows
set_option pp.maxSteps 200
set_option maxRecDepth 100000 in
set_option maxHeartbeats 0 in
theorem PySem.Challenge.cw_brokenparts_k09_lists_anywhere_holds : PySem.Challenge.rw_brokenparts_k09_lists_anywhere.Holds := by
  w_on; o_law; k_head; (case hw => w_witness2)
  k_fill
  refine DL.walkL (l := PySem.Challenge.rw_brokenparts_k09_lists_anywhere) (k := 23) (m := B.m_law) (tn := "_law_spoilt") rfl rfl ⟨rfl, by decide, by decide⟩ ⟨_, rfl⟩ (fun w h Y => PySem.W.km_in_of Y) B.law_true ?F
  case F =>
    intro w mg fa h KX G hmg
    refine' B.all_mk KX G hmg ?a0 ?l0 ?c0 ?k0 ?a1 ?l1 ?c1 ?k1 ?a2 ?l2 ?c2 ?k2 ?a3 ?l3 ?c3 ?k3 ?a4 ?l4 ?c4 ?k4 ?a5 ?l5 ?c5 ?k5 ?a6 ?l6 ?c6 ?k6 ?a7 ?l7 ?c7 ?k7 ?a8 ?l8 ?c8 ?k8 ?a9 ?l9 ?c9 ?k9 ?a10 ?l10 ?c10 ?k10 ?a11 ?l11 ?c11 ?k11 ?a12 ?l12 ?c12 ?k12 ?a13 ?l13 ?c13 ?k13 ?a14 ?l14 ?c14 ?k14 ?a15 ?l15 ?c15 ?k15 ?a16 ?l16 ?c16 ?k16 ?a17 ?l17 ?c17 ?k17 ?a18 ?l18 ?c18 ?k18 ?a19 ?l19 ?c19 ?k19 ?a20 ?l20 ?c20 ?k20 ?a21 ?l21 ?c21 ?k21 ?a22 ?l22 ?c22 ?k22 ?a23 ?l23 ?c23 ?k23 ?z0 ?z1 ?z2 ?z3 ?z4 ?z5 ?z6 ?z7 ?z8 ?z9 ?y0 ?w0 ?v0 ?y1 ?y2 ?y3 ?y4 ?y5 ?xl1 ?xl2 ?xl3 ?xl4
    (case a0 => k_is)
    (case l0 => k_is)
    (case c0 => k_is)
    (case k0 => k_is)
    (case a1 => k_is)
    (case l1 => k_is)
    (case c1 => k_is)
    (case k1 => k_is)
    (case a2 => k_is)
    (case l2 => k_is)
    (case c2 => k_is)
    (case k2 => k_is)
    (case a3 => k_is)
    (case l3 => k_is)
    (case c3 => k_is)
    (case k3 => k_is)
    (case a4 => k_is)
    (case l4 => k_is)
    (case c4 => k_is)
    (case k4 => k_is)
    (case a5 => k_is)
    (case l5 => k_is)
    (case c5 => k_is)
    (case k5 => k_is)
    (case a6 => k_is)
    (case l6 => k_is)
    (case c6 => k_is)
    (case k6 => k_is)
    (case a7 => k_is)
    (case l7 => k_is)
    (case c7 => k_is)
    (case k7 => k_is)
    (case a8 => k_is)
    (case l8 => k_is)
    (case c8 => k_is)
    (case k8 => k_is)
    (case a9 => k_is)
    (case l9 => k_is)
    (case c9 => k_is)
    (case k9 => k_is)
    (case a10 => k_is)
    (case l10 => k_is)
    (case c10 => k_is)
    (case k10 => k_is)
    (case a11 => k_is)
    (case l11 => k_is)
    (case c11 => k_is)
    (case k11 => k_is)
    (case a12 => k_is)
    (case l12 => k_is)
    (case c12 => k_is)
    (case k12 => k_is)
    (case a13 => k_is)
    (case l13 => k_is)
    (case c13 => k_is)
    (case k13 => k_is)
    (case a14 => k_is)
    (case l14 => k_is)
    (case c14 => k_is)
    (case k14 => k_is)
    (case a15 => k_is)
    (case l15 => k_is)
    (case c15 => k_is)
    (case k15 => k_is)
    (case a16 => k_is)
    (case l16 => k_is)
    (case c16 => k_is)
    (case k16 => k_is)
    (case a17 => k_is)
    (case l17 => k_is)
    (case c17 => k_is)
    (case k17 => k_is)
    (case a18 => k_is)
    (case l18 => k_is)
    (case c18 => k_is)
    (case k18 => k_is)
    (case a19 => k_is)
    (case l19 => k_is)
    (case c19 => k_is)
    (case k19 => k_is)
    (case a20 => k_is)
    (case l20 => k_is)
    (case c20 => k_is)
    (case k20 => k_is)
    (case a21 => k_is)
    (case l21 => k_is)
    (case c21 => k_is)
    (case k21 => k_is)
    (case a22 => k_is)
    (case l22 => k_is)
    (case c22 => k_is)
    (case k22 => k_is)
    (case a23 => k_is)
    (case l23 => k_is)
    (case c23 => k_is)
    (case k23 => k_is)
    (case z0 => k_is)
    (case z1 => k_is)
    (case z2 => k_is)
    (case z3 => k_is)
    (case z4 => k_is)
    (case z5 => k_is)
    (case z6 => k_is)
    (case z7 => k_is)
    (case z8 => k_is)
    (case z9 => k_is)
    (case y0 => k_is)
    (case w0 => k_is)
    (case v0 => decide +kernel)
    (case y1 => k_is)
    (case y2 => k_is)
    (case y3 => k_is)
    (case y4 => k_is)
    (case y5 => k_is)
    (case xl1 => rfl)
    (case xl2 => k_is)
    (case xl3 => rfl)
    (case xl4 => rfl)
